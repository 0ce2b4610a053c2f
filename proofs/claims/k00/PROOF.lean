import PyProof.Rows.All
import Wide.All
import OpenK.AllK
import Wide.FinOn
import KE.KStateDown
import HandS.ForMost
import HandS.Exc
import HandS.Defaults
import HandS.HeadHook1
import HandS.HeadHook2
import HandS.Deep
import HandS.Wide
import HandS.Flow
import HandS.Style
import HandS.CallSlots
import HandS.Iter
import KE.GoesEnum
import HandS.Zip
import HandS.Rev
import HandS.Comp
import HandS.SetFor
import HandS.Strs
import HandS.TupMul
import HandS.TupAny
import HandS.IsInst
import HandS.SortInts
import HandS.WordsDict
import HandS.Conv
import HandS.DictComp
import HandS.MakeKwOnly
import HandS.Lambda
import HandS.ExcInit
import HandS.ExcSuper
import HandS.ExcField
import HandS.Nested
import HandS.TryMany
import KE.KSuper
import KE.KExcInit
import HandS.Head0
import HandS.Head1
import HandS.Head2
import HandS.HeadEnd
import PySem.Challenge.RW_saymakers_k00_whole_errors_and_what_they
set_option Elab.async false
set_option linter.all false
set_option maxRecDepth 100000
set_option maxHeartbeats 2000000
namespace PL
open PySem PySem.Spec PyProof.Rows L2

/-! ### data, slots, results -/
abbrev D := PyData
abbrev St := L2.St
/-- what a mutable object holds -/
inductive Co where
  | lst (ds : List D)
  | dct (kvs : List (Key × D))
  | ins (c : Str) (fs : List (Str × D))
/-- a local name: not told, data that never changes, an object that may change (own: the def's own, else lent by the caller; lk: being walked) -/
inductive Sl where
  | un
  | sh (d : D)
  | mu (own lk : Bool) (c : Co)
abbrev Env := List Sl
/-- an expression's value: data, a new object, the object of a slot -/
inductive Rv where
  | d (x : D)
  | fr (c : Co)
  | sl (i : Nat)
structure Exc where
  cls : Str
  fs : List (Str × D)
inductive Res (α : Type) where
  | stuck
  | ok (a : α) (env : Env)
  | exc (x : Exc) (env : Env)
/-- a statement's end -/
inductive SRes where
  | stuck
  | nx (env : Env)
  | rt (r : Rv) (env : Env)
  | bk (env : Env)
  | ct (env : Env)
  | exc (x : Exc) (env : Env)

/-! ### data in a heap -/
/-- a dict's key as data -/
def keyD : Key → D
  | .inl i => .int i
  | .inr x => .str x
mutual
inductive Rep (K : PySem.W.Frag) (F : Hp) : V → D → Prop
  | non : Rep K F .non .none
  | bl (b : Bool) : Rep K F (.bl b) (.bool b)
  | int (i : Int) : Rep K F (.int i) (.int i)
  | str (x : Str) : Rep K F (.str x) (.str x)
  | lst {a : Addr} {xs : List V} {ds : List D} : F a = some (.lst xs) → RepL K F xs ds → Rep K F (.ref a) (.list ds)
  | scr {a : Addr} {xs : List V} {ds : List D} : SqL K F a xs → RepL K F xs ds → Rep K F (.ref a) (.dict [(.bool true, .list ds)])
  | tup {a : Addr} {xs : List V} {ds : List D} : SqT K F a xs → RepL K F xs ds → Rep K F (.ref a) (.tuple ds)
  | ins {a dx : Addr} {fs : List (Str × V)} {c : Str} {kvs : List (D × D)} : F a = some (.ins (He.ga K c) dx fs) → RepF K F fs kvs → Rep K F (.ref a) (.dict ((.none, .str c) :: kvs))
  | dct {a : Addr} {fs : List (Key × V)} {kvs : List (D × D)} : F a = some (.dK fs) → RepK K F fs kvs → Rep K F (.ref a) (.dict kvs)
inductive RepL (K : PySem.W.Frag) (F : Hp) : List V → List D → Prop
  | nil : RepL K F [] []
  | cons {v : V} {vs : List V} {d : D} {ds : List D} : Rep K F v d → RepL K F vs ds → RepL K F (v :: vs) (d :: ds)
inductive RepF (K : PySem.W.Frag) (F : Hp) : List (Str × V) → List (D × D) → Prop
  | nil : RepF K F [] []
  | cons {n : Str} {v : V} {fs : List (Str × V)} {d : D} {kvs : List (D × D)} : Rep K F v d → RepF K F fs kvs → RepF K F ((n, v) :: fs) ((.str n, d) :: kvs)
inductive RepK (K : PySem.W.Frag) (F : Hp) : List (Key × V) → List (D × D) → Prop
  | nil : RepK K F [] []
  | cons {k : Key} {v : V} {fs : List (Key × V)} {d : D} {kvs : List (D × D)} : Rep K F v d → RepK K F fs kvs → RepK K F ((k, v) :: fs) ((keyD k, d) :: kvs)
end
/-- the part of a heap -/
def Sub (F H : Hp) : Prop := ∀ a o, F a = some o → H a = some o
theorem Sub.refl {F : Hp} : Sub F F := fun _ _ h => h
theorem Sub.trans {F G H : Hp} (a : Sub F G) (b : Sub G H) : Sub F H := fun x o h => b x o (a x o h)
section
variable {K : PySem.W.Frag} {F G H : Hp}
theorem rd_sub {a : Addr} {u : HO} (h : Rd F a u) (s : Sub F G) : Rd G a u := by
  rcases h with h | ⟨o, h⟩
  · exact .inl (s _ _ h)
  · exact .inr ⟨o, s _ _ h⟩
theorem sqL_sub {a : Addr} {xs : List V} (h : SqL K F a xs) (s : Sub F G) : SqL K G a xs := by
  rcases h with h | h
  · exact .inl (rd_sub h s)
  · exact .inr h
theorem sqT_sub {a : Addr} {xs : List V} (h : SqT K F a xs) (s : Sub F G) : SqT K G a xs := by
  rcases h with h | h
  · exact .inl (rd_sub h s)
  · exact .inr h
theorem Rep.mono {v : V} {d : D} (h : Rep K F v d) (s : Sub F G) : Rep K G v d := by
  refine @Rep.rec K F (fun v d _ => Rep K G v d) (fun vs ds _ => RepL K G vs ds) (fun fs kvs _ => RepF K G fs kvs) (fun fs kvs _ => RepK K G fs kvs) .non .bl .int .str ?_ ?_ ?_ ?_ ?_ .nil ?_ .nil ?_ .nil ?_ v d h
  · intro a xs ds h1 _ ih
    exact .lst (s _ _ h1) ih
  · intro a xs ds h1 _ ih
    exact .scr (sqL_sub h1 s) ih
  · intro a xs ds h1 _ ih
    exact .tup (sqT_sub h1 s) ih
  · intro a dx fs c kvs h1 _ ih
    exact .ins (s _ _ h1) ih
  · intro a fs kvs h1 _ ih
    exact .dct (s _ _ h1) ih
  · intro v vs d ds _ _ h1 h2
    exact .cons h1 h2
  · intro n v fs d kvs _ _ h1 h2
    exact .cons h1 h2
  · intro n v fs d kvs _ _ h1 h2
    exact .cons h1 h2
theorem RepL.mono {vs : List V} {ds : List D} (h : RepL K F vs ds) (s : Sub F G) : RepL K G vs ds := by
  induction ds generalizing vs with
  | nil => cases h; exact .nil
  | cons d ds ih => cases h with | cons h1 h2 => exact .cons (h1.mono s) (ih h2)
theorem RepF.mono {fs : List (Str × V)} {kvs : List (D × D)} (h : RepF K F fs kvs) (s : Sub F G) : RepF K G fs kvs := by
  induction kvs generalizing fs with
  | nil => cases h; exact .nil
  | cons d ds ih => cases h with | cons h1 h2 => exact .cons (h1.mono s) (ih h2)
theorem RepL.length {vs : List V} {ds : List D} (h : RepL K F vs ds) : vs.length = ds.length := by
  induction ds generalizing vs with
  | nil => cases h; rfl
  | cons d ds ih => cases h with | cons h1 h2 => simp [ih h2]
theorem RepL.append {vs ws : List V} {ds es : List D} (h : RepL K F vs ds) (h' : RepL K F ws es) : RepL K F (vs ++ ws) (ds ++ es) := by
  induction ds generalizing vs with
  | nil => cases h; exact h'
  | cons d ds ih => cases h with | cons h1 h2 => exact .cons h1 (ih h2)
theorem RepL.get {vs : List V} {ds : List D} {i : Nat} {d : D} (h : RepL K F vs ds) (e : ds[i]? = some d) : ∃ v, vs[i]? = some v ∧ Rep K F v d := by
  induction ds generalizing vs i with
  | nil => simp at e
  | cons d' ds ih =>
    cases h with
    | cons h1 h2 =>
      cases i with
      | zero => simp at e; subst e; exact ⟨_, rfl, h1⟩
      | succ i => simpa using ih h2 (by simpa using e)
theorem RepL.getV {vs : List V} {ds : List D} {i : Nat} {v : V} (h : RepL K F vs ds) (e : vs[i]? = some v) : ∃ d, ds[i]? = some d ∧ Rep K F v d := by
  induction ds generalizing vs i with
  | nil => cases h; simp at e
  | cons d' ds ih =>
    cases h with
    | cons h1 h2 =>
      cases i with
      | zero => simp at e; subst e; exact ⟨_, rfl, h1⟩
      | succ i => simpa using ih h2 (by simpa using e)
theorem RepL.set {vs : List V} {ds : List D} {v : V} {d : D} (h : RepL K F vs ds) (i : Nat) (r : Rep K F v d) : RepL K F (vs.set i v) (ds.set i d) := by
  induction ds generalizing vs i with
  | nil => cases h; exact .nil
  | cons d' ds ih =>
    cases h with
    | cons h1 h2 =>
      cases i with
      | zero => exact .cons r h2
      | succ i => exact .cons h1 (ih h2 i)
theorem RepL.take {vs : List V} {ds : List D} (h : RepL K F vs ds) (n : Nat) : RepL K F (vs.take n) (ds.take n) := by
  induction ds generalizing vs n with
  | nil => cases h; simpa using .nil
  | cons d' ds ih =>
    cases h with
    | cons h1 h2 =>
      cases n with
      | zero => exact .nil
      | succ n => exact .cons h1 (ih h2 n)
theorem RepL.drop {vs : List V} {ds : List D} (h : RepL K F vs ds) (n : Nat) : RepL K F (vs.drop n) (ds.drop n) := by
  induction ds generalizing vs n with
  | nil => cases h; simpa using .nil
  | cons d' ds ih =>
    cases h with
    | cons h1 h2 =>
      cases n with
      | zero => exact .cons h1 h2
      | succ n => exact ih h2 n
theorem RepL.reverse {vs : List V} {ds : List D} (h : RepL K F vs ds) : RepL K F vs.reverse ds.reverse := by
  induction ds generalizing vs with
  | nil => cases h; exact .nil
  | cons d' ds ih =>
    cases h with
    | cons h1 h2 => simpa using (ih h2).append (.cons h1 .nil)
theorem RepL.eraseIdx {vs : List V} {ds : List D} (h : RepL K F vs ds) (n : Nat) : RepL K F (vs.eraseIdx n) (ds.eraseIdx n) := by
  induction ds generalizing vs n with
  | nil => cases h; exact .nil
  | cons d' ds ih =>
    cases h with
    | cons h1 h2 =>
      cases n with
      | zero => exact h2
      | succ n => exact .cons h1 (ih h2 n)
/-- what a mutable object's record holds -/
inductive CRep (K : PySem.W.Frag) (F : Hp) : HO → Co → Prop
  | lst {xs : List V} {ds : List D} : RepL K F xs ds → CRep K F (.lst xs) (.lst ds)
  | ins {dx : Addr} {c : Str} {fs : List (Str × V)} {gs : List (Str × D)} : fs.map (·.1) = gs.map (·.1) → RepL K F (fs.map (·.2)) (gs.map (·.2)) → CRep K F (.ins (He.ga K c) dx fs) (.ins c gs)
  | dct {fs : List (Key × V)} {gs : List (Key × D)} : fs.map (·.1) = gs.map (·.1) → RepL K F (fs.map (·.2)) (gs.map (·.2)) → CRep K F (.dK fs) (.dct gs)
theorem CRep.mono {o : HO} {c : Co} (h : CRep K F o c) (s : Sub F G) : CRep K G o c := by
  cases h with
  | lst h => exact .lst (h.mono s)
  | ins e h => exact .ins e (h.mono s)
  | dct e h => exact .dct e (h.mono s)

/-! ### a frame's slots -/
def SlRel (K : PySem.W.Frag) (F H : Hp) : Sl → Option (Option V) → Prop
  | .un, _ => True
  | .sh d, v => ∃ x, v = some (some x) ∧ Rep K F x d
  | .mu _ _ c, v => ∃ a o, v = some (some (.ref a)) ∧ F a = none ∧ H a = some o ∧ CRep K F o c
/-- the object at a may change in this frame -/
def LA (env : Env) (σ : St) (a : Addr) : Prop := ∃ (i : Nat) (w : Bool) (c : Co), env[i]? = some (.mu w false c) ∧ σ[i]? = some (some (.ref a))
/-- a is a slot's object -/
def MA (env : Env) (σ : St) (a : Addr) : Prop := ∃ (i : Nat) (w l : Bool) (c : Co), env[i]? = some (.mu w l c) ∧ σ[i]? = some (some (.ref a))
structure Rel (K : PySem.W.Frag) (env : Env) (F : Hp) (σ : St) (H : Hp) : Prop where
  le : Sub F H
  len : σ.length = env.length
  sl : ∀ (i : Nat) s, env[i]? = some s → SlRel K F H s σ[i]?
  ap : ∀ (i j : Nat) w l c w' l' c' a, env[i]? = some (.mu w l c) → env[j]? = some (.mu w' l' c') → σ[i]? = some (some (.ref a)) → σ[j]? = some (some (.ref a)) → i = j
structure Stp (env : Env) (σ : St) (F H : Hp) (env' : Env) (σ' : St) (F' H' : Hp) : Prop where
  keep : ∀ b, H b ≠ none → ¬ LA env σ b → H' b = H b ∧ F' b = F b
  dom : ∀ b, H b ≠ none → H' b ≠ none
  newL : ∀ a, LA env' σ' a → LA env σ a ∨ H a = none
  newM : ∀ a, MA env' σ' a → MA env σ a ∨ H a = none
  bor : ∀ (i : Nat) l c, env[i]? = some (.mu false l c) → σ'[i]? = σ[i]? ∧ ∃ l' c', env'[i]? = some (.mu false l' c')
  lkd : ∀ (i : Nat) w c, env'[i]? = some (.mu w true c) → (∃ c0, env[i]? = some (.mu w true c0)) ∧ σ'[i]? = σ[i]?
theorem LA.ma {env : Env} {σ : St} {a : Addr} (h : LA env σ a) : MA env σ a := by
  obtain ⟨i, w, c, e, s⟩ := h
  exact ⟨i, w, false, c, e, s⟩
theorem Rel.ma_none {env : Env} {σ : St} {a : Addr} (R : Rel K env F σ H) (h : MA env σ a) : F a = none ∧ H a ≠ none := by
  obtain ⟨i, w, l, c, e, s⟩ := h
  obtain ⟨b, o, e1, e2, e3, _⟩ := R.sl i _ e
  rw [s] at e1
  have z : a = b := by injection e1 with e1; injection e1 with e1; injection e1
  subst z
  exact ⟨e2, by rw [e3]; simp⟩
theorem Stp.sub {env env' : Env} {σ σ' : St} {F' H' : Hp} (R : Rel K env F σ H) (S : Stp env σ F H env' σ' F' H') : Sub F F' := fun a o h => by
  have h1 : H a = some o := R.le a o h
  have n : ¬ LA env σ a := fun z => by
    have := (R.ma_none z.ma).1
    rw [h] at this
    cases this
  exact (S.keep a (by rw [h1]; simp) n).2.trans h
theorem Stp.refl {env : Env} {σ : St} : Stp env σ F H env σ F H := ⟨fun _ _ _ => ⟨rfl, rfl⟩, fun _ h => h, fun _ h => .inl h, fun _ h => .inl h, fun _ l c e => ⟨rfl, l, c, e⟩, fun _ _ c e => ⟨⟨c, e⟩, rfl⟩⟩
theorem Stp.trans {env env1 env2 : Env} {σ σ1 σ2 : St} {F1 H1 F2 H2 : Hp} (a : Stp env σ F H env1 σ1 F1 H1) (b : Stp env1 σ1 F1 H1 env2 σ2 F2 H2) : Stp env σ F H env2 σ2 F2 H2 where
  keep := fun x hx n => by
    obtain ⟨h1, h2⟩ := a.keep x hx n
    have n1 : ¬ LA env1 σ1 x := fun z => by
      rcases a.newL x z with z | z
      · exact n z
      · exact hx z
    obtain ⟨h3, h4⟩ := b.keep x (a.dom x hx) n1
    exact ⟨h3.trans h1, h4.trans h2⟩
  dom := fun x hx => b.dom x (a.dom x hx)
  newL := fun x h => by
    rcases b.newL x h with h | h
    · exact a.newL x h
    · exact .inr (Classical.byContradiction fun z => a.dom x z h)
  newM := fun x h => by
    rcases b.newM x h with h | h
    · exact a.newM x h
    · exact .inr (Classical.byContradiction fun z => a.dom x z h)
  bor := fun i l c e => by
    obtain ⟨h1, l1, c1, e1⟩ := a.bor i l c e
    obtain ⟨h2, l2, c2, e2⟩ := b.bor i l1 c1 e1
    exact ⟨h2.trans h1, l2, c2, e2⟩
  lkd := fun i w c e => by
    obtain ⟨⟨c1, e1⟩, h1⟩ := b.lkd i w c e
    obtain ⟨e2, h2⟩ := a.lkd i w c1 e1
    exact ⟨e2, h1.trans h2⟩
/-- a value; H0: the heap ahead of its making -/
def RvRel (K : PySem.W.Frag) (H0 F H : Hp) (env : Env) (σ : St) : Rv → V → Prop
  | .d x, v => Rep K F v x
  | .fr c, v => ∃ a o, v = .ref a ∧ H0 a = none ∧ F a = none ∧ H a = some o ∧ CRep K F o c ∧ ¬ MA env σ a
  | .sl i, v => σ[i]? = some (some v)
/-- a value that waits while another is made -/
theorem RvRel.wait {env env' : Env} {σ : St} {H0 F' H' : Hp} {r : Rv} {v : V} (h : RvRel K H0 F H env σ r v) (R : Rel K env F σ H) (S : Stp env σ F H env' σ F' H') : RvRel K H0 F' H' env' σ r v := by
  cases r with
  | d x => exact Rep.mono h (S.sub R)
  | fr c =>
    obtain ⟨a, o, e, h0, h1, h2, h3, h4⟩ := h
    have hn : H a ≠ none := by rw [h2]; simp
    obtain ⟨k1, k2⟩ := S.keep a hn fun z => h4 z.ma
    refine ⟨a, o, e, h0, k2.trans h1, k1.trans h2, h3.mono (S.sub R), fun z => ?_⟩
    rcases S.newM a z with z | z
    · exact h4 z
    · exact hn z
  | sl i => exact h
theorem RvRel.older {env : Env} {σ : St} {H0 H1 : Hp} {r : Rv} {v : V} (h : RvRel K H1 F H env σ r v) (d : ∀ b, H0 b ≠ none → H1 b ≠ none) : RvRel K H0 F H env σ r v := by
  cases r with
  | d x => exact h
  | fr c =>
    obtain ⟨a, o, e, h0, h1⟩ := h
    exact ⟨a, o, e, Classical.byContradiction fun z => d a z h0, h1⟩
  | sl i => exact h
/-- an exception that is under way -/
def XRel (K : PySem.W.Frag) (F : Hp) (x : Exc) (cls : Value) (d : Option Addr) : Prop :=
  cls = .ref (He.ga K x.cls) ∧ ((x.fs = [] ∧ d = none) ∨ ∃ dd fs, d = some dd ∧ F dd = some (.xd fs) ∧ fs.map (·.1) = x.fs.map (·.1) ∧ RepL K F (fs.map (·.2)) (x.fs.map (·.2)))
end

/-! ### the judgements -/
def EPost (K : PySem.W.Frag) (W : WX) (env : Env) (F : Hp) (σ : St) (H : Hp) (Q : VK) : Res Rv → Prop
  | .stuck => False
  | .ok r env' => ∀ v F' H', Rel K env' F' σ H' → Stp env σ F H env' σ F' H' → RvRel K H F' H' env' σ r v → Q v H'
  | .exc x env' => ∀ cls d F' H', Rel K env' F' σ H' → Stp env σ F H env' σ F' H' → XRel K F' x cls d → W cls d σ H'
def tE (K : PySem.W.Frag) (W : WX) (f : Env → Res Rv) : TE := fun σ H Q => ∃ env F, Rel K env F σ H ∧ EPost K W env F σ H Q (f env)
/-- an expression's meaning -/
def SE (X : Cx) (W : WX) (e : Expr) (f : Env → Res Rv) : Prop := PE X e (tE X.K W f)
def TPost (K : PySem.W.Frag) (W : WX) (env : Env) (F : Hp) (σ : St) (H : Hp) (Q : Bool → Hp → Prop) : Res Bool → Prop
  | .stuck => False
  | .ok b env' => ∀ F' H', Rel K env' F' σ H' → Stp env σ F H env' σ F' H' → Q b H'
  | .exc x env' => ∀ cls d F' H', Rel K env' F' σ H' → Stp env σ F H env' σ F' H' → XRel K F' x cls d → W cls d σ H'
def tT (K : PySem.W.Frag) (W : WX) (f : Env → Res Bool) : TT := fun σ H Q => ∃ env F, Rel K env F σ H ∧ TPost K W env F σ H Q (f env)
/-- a test's meaning -/
def ST (X : Cx) (W : WX) (e : Expr) (f : Env → Res Bool) : Prop := PT X e (tT X.K W f)
def SPost (K : PySem.W.Frag) (W : WX) (env : Env) (F : Hp) (σ : St) (H : Hp) (D : Ends) : SRes → Prop
  | .stuck => False
  | .nx env' => ∀ σ' F' H', Rel K env' F' σ' H' → Stp env σ F H env' σ' F' H' → D.nx σ' H'
  | .bk env' => ∀ σ' F' H', Rel K env' F' σ' H' → Stp env σ F H env' σ' F' H' → D.bk σ' H'
  | .ct env' => ∀ σ' F' H', Rel K env' F' σ' H' → Stp env σ F H env' σ' F' H' → D.ct σ' H'
  | .rt r env' => ∀ v σ' F' H', Rel K env' F' σ' H' → Stp env σ F H env' σ' F' H' → RvRel K H F' H' env' σ' r v → D.rt v H'
  | .exc x env' => ∀ cls d σ' F' H', Rel K env' F' σ' H' → Stp env σ F H env' σ' F' H' → XRel K F' x cls d → W cls d σ' H'
def tS (K : PySem.W.Frag) (W : WX) (f : Env → SRes) : TS := fun D σ H => ∃ env F, Rel K env F σ H ∧ SPost K W env F σ H D (f env)
def SS (X : Cx) (W : WX) (st : Stmt) (f : Env → SRes) : Prop := PS X st (tS X.K W f)
def SSs (X : Cx) (W : WX) (st : List Stmt) (f : Env → SRes) : Prop := PSs X st (tS X.K W f)

/-! ### weakening -/
theorem PE.imp {X : Cx} {e : Expr} {t t' : TE} (h : PE X e t) (i : ∀ σ H Q, t' σ H Q → t σ H Q) : PE X e t' := ⟨fun pins s σ H Q I q => h.run pins s σ H Q I (i σ H Q q)⟩
theorem PT.imp {X : Cx} {e : Expr} {t t' : TT} (h : PT X e t) (i : ∀ σ H Q, t' σ H Q → t σ H Q) : PT X e t' := ⟨fun pins s σ H Q I q => h.run pins s σ H Q I (i σ H Q q)⟩
theorem PS.imp {X : Cx} {e : Stmt} {t t' : TS} (h : PS X e t) (i : ∀ D σ H, t' D σ H → t D σ H) : PS X e t' := ⟨fun pins s σ H D I q => h.run pins s σ H D I (i D σ H q)⟩
theorem PSs.imp {X : Cx} {e : List Stmt} {t t' : TS} (h : PSs X e t) (i : ∀ D σ H, t' D σ H → t D σ H) : PSs X e t' := ⟨fun pins s σ H D I q => h.run pins s σ H D I (i D σ H q)⟩
end PL

set_option Elab.async false
set_option linter.all false
set_option maxRecDepth 100000
set_option maxHeartbeats 2000000
namespace PL
open PySem PySem.Spec PyProof.Rows L2

def Res.bind {α β : Type} (x : Res α) (k : α → Env → Res β) : Res β := match x with
  | .stuck => .stuck
  | .ok a e => k a e
  | .exc x e => .exc x e
/-- an object's content as data -/
def coD : Co → Option D
  | .lst ds => some (.list ds)
  | .ins c gs => some (.dict ((.none, .str c) :: gs.map fun g => (.str g.1, g.2)))
  | .dct gs => some (.dict (gs.map fun g => (keyD g.1, g.2)))
/-- the data that a value shows -/
def peek (env : Env) : Rv → Option D
  | .d x => some x
  | .fr c => coD c
  | .sl i => match env[i]? with
    | some (.sh d) => some d
    | some (.mu _ _ c) => coD c
    | _ => none
section
variable {K : PySem.W.Frag} {F G H H0 : Hp} {env : Env} {σ : St}
theorem repF_of : ∀ {fs : List (Str × V)} {gs : List (Str × D)}, fs.map (·.1) = gs.map (·.1) → RepL K F (fs.map (·.2)) (gs.map (·.2)) → RepF K F fs (gs.map fun g => (.str g.1, g.2))
  | [], [], _, _ => .nil
  | [], _ :: _, e, _ => by simp at e
  | _ :: _, [], e, _ => by simp at e
  | (n, v) :: fs, (m, d) :: gs, e, r => by
    simp only [List.map_cons, List.cons.injEq] at e
    obtain ⟨e1, e2⟩ := e
    subst e1
    have r' : RepL K F (v :: fs.map (·.2)) (d :: gs.map (·.2)) := r
    cases r' with
    | cons r1 r2 => exact .cons r1 (repF_of e2 r2)
theorem repK_of : ∀ {fs : List (Key × V)} {gs : List (Key × D)}, fs.map (·.1) = gs.map (·.1) → RepL K F (fs.map (·.2)) (gs.map (·.2)) → RepK K F fs (gs.map fun g => (keyD g.1, g.2))
  | [], [], _, _ => .nil
  | [], _ :: _, e, _ => by simp at e
  | _ :: _, [], e, _ => by simp at e
  | (n, v) :: fs, (m, d) :: gs, e, r => by
    simp only [List.map_cons, List.cons.injEq] at e
    obtain ⟨e1, e2⟩ := e
    subst e1
    have r' : RepL K F (v :: fs.map (·.2)) (d :: gs.map (·.2)) := r
    cases r' with
    | cons r1 r2 => exact .cons r1 (repK_of e2 r2)
theorem coD_rep {o : HO} {c : Co} {d : D} {a : Addr} (h : CRep K F o c) (e : coD c = some d) (s : Sub F G) (ha : G a = some o) : Rep K G (.ref a) d := by
  cases h with
  | lst h =>
    cases e
    exact .lst ha (h.mono s)
  | ins e1 h =>
    cases e
    exact .ins ha (repF_of e1 (h.mono s))
  | dct e1 h =>
    cases e
    exact .dct ha (repK_of e1 (h.mono s))
/-- .. and what it is in the heap: in the frozen part, or one object over it -/
theorem peek_top {r : Rv} {v : V} {d : D} (R : Rel K env F σ H) (V : RvRel K H0 F H env σ r v) (e : peek env r = some d) : Rep K F v d ∨ ∃ a o c, v = .ref a ∧ H a = some o ∧ CRep K F o c ∧ coD c = some d := by
  cases r with
  | d x =>
    have z : x = d := Option.some.inj e
    subst z
    exact .inl V
  | fr c =>
    obtain ⟨a, o, rfl, h0, h1, h2, h3, h4⟩ := V
    exact .inr ⟨a, o, c, rfl, h2, h3, e⟩
  | sl i =>
    have hv : σ[i]? = some (some v) := V
    dsimp only [peek] at e
    cases q : env[i]? with
    | none => rw [q] at e; cases e
    | some s =>
      rw [q] at e
      have z := R.sl i s q
      cases s with
      | un => cases e
      | sh d' =>
        have z2 := Option.some.inj e
        subst z2
        obtain ⟨x, h1, h2⟩ := z
        rw [hv] at h1
        injection h1 with h1
        injection h1 with h1
        subst h1
        exact .inl h2
      | mu w l c =>
        obtain ⟨a, o, h1, h2, h3, h4⟩ := z
        rw [hv] at h1
        injection h1 with h1
        injection h1 with h1
        subst h1
        exact .inr ⟨a, o, c, rfl, h3, h4, e⟩
theorem peek_rep {r : Rv} {v : V} {d : D} (R : Rel K env F σ H) (V : RvRel K H0 F H env σ r v) (e : peek env r = some d) : Rep K H v d := by
  rcases peek_top R V e with h | ⟨a, o, c, rfl, h1, h2, h3⟩
  · exact h.mono R.le
  · exact coD_rep h2 h3 R.le h1
/-- data that lies nowhere -/
def Sc (v : V) (d : D) : Prop := ∀ (K : PySem.W.Frag) (F : Hp), Rep K F v d
theorem sc_bl (b : Bool) : Sc (.bl b) (.bool b) := fun _ _ => .bl b
theorem sc_int (i : Int) : Sc (.int i) (.int i) := fun _ _ => .int i
theorem sc_non : Sc .non .none := fun _ _ => .non
theorem sc_str (x : Str) : Sc (.str x) (.str x) := fun _ _ => .str x

/-! ### running on -/
theorem use1 {W : WX} {fa : Env → Res Rv} {Q : VK} {k : Rv → Env → Res Rv} {G : V → Hp → Prop} (R : Rel K env F σ H) (p : EPost K W env F σ H Q ((fa env).bind k))
    (fin : ∀ ra e1 x F1 H1, Rel K e1 F1 σ H1 → Stp env σ F H e1 σ F1 H1 → RvRel K H F1 H1 e1 σ ra x → EPost K W env F σ H Q (k ra e1) → G x H1) :
    tE K W fa σ H G := by
  refine ⟨env, F, R, ?_⟩
  cases ea : fa env with
  | stuck => rw [ea] at p; exact p
  | exc x e1 => rw [ea] at p; exact p
  | ok ra e1 =>
    rw [ea] at p
    intro x F1 H1 R1 S1 V1
    exact fin ra e1 x F1 H1 R1 S1 V1 p
theorem use2 {W : WX} {fa fb : Env → Res Rv} {Q : VK} {k : Rv → Rv → Env → Res Rv} {G : V → V → Hp → Prop} (R : Rel K env F σ H) (p : EPost K W env F σ H Q ((fa env).bind fun ra e1 => (fb e1).bind (k ra)))
    (fin : ∀ ra rb e2 x y F2 H2, Rel K e2 F2 σ H2 → Stp env σ F H e2 σ F2 H2 → RvRel K H F2 H2 e2 σ ra x → RvRel K H F2 H2 e2 σ rb y → EPost K W env F σ H Q (k ra rb e2) → G x y H2) :
    tE K W fa σ H fun x H1 => tE K W fb σ H1 fun y H2 => G x y H2 := by
  refine use1 R p fun ra e1 x F1 H1 R1 S1 V1 p1 => ⟨e1, F1, R1, ?_⟩
  cases eb : fb e1 with
  | stuck => rw [eb] at p1; exact p1
  | exc z e2 =>
    rw [eb] at p1
    intro cls d F2 H2 R2 S2 X2
    exact p1 cls d F2 H2 R2 (S1.trans S2) X2
  | ok rb e2 =>
    rw [eb] at p1
    intro y F2 H2 R2 S2 V2
    exact fin ra rb e2 x y F2 H2 R2 (S1.trans S2) (V1.wait R1 S2) (V2.older S1.dom) p1
/-- a new object, tracked: a new mutable one -/
theorem Rel.fresh {p : Addr} {o : HO} (R : Rel K env F σ H) (hp : H p = none) : Rel K env F σ (upd H p o) := by
  refine ⟨fun a u e => ?_, R.len, fun i s e => ?_, R.ap⟩
  · have h := R.le a u e
    rw [upd_ne (ne_of_none h hp)]
    exact h
  · have z := R.sl i s e
    cases s with
    | un => exact trivial
    | sh d => exact z
    | mu w l c =>
      obtain ⟨a, u, h1, h2, h3, h4⟩ := z
      exact ⟨a, u, h1, h2, by rw [upd_ne (ne_of_none h3 hp)]; exact h3, h4⟩
theorem fresh_ma {p : Addr} (R : Rel K env F σ H) (hp : H p = none) : ¬ MA env σ p := fun z => (R.ma_none z).2 hp
theorem Stp.fresh {p : Addr} {o : HO} (hp : H p = none) : Stp env σ F H env σ F (upd H p o) where
  keep := fun b hb _ => ⟨upd_ne fun z => by rw [z, hp] at hb; exact hb rfl, rfl⟩
  dom := fun b hb => by
    rw [upd_ne fun z => by rw [z, hp] at hb; exact hb rfl]
    exact hb
  newL := fun _ h => .inl h
  newM := fun _ h => .inl h
  bor := fun _ l c e => ⟨rfl, l, c, e⟩
  lkd := fun _ _ c e => ⟨⟨c, e⟩, rfl⟩
/-- .. data from now on -/
theorem Rel.laid {p : Addr} {o : HO} (R : Rel K env F σ H) (hp : H p = none) : Rel K env (upd F p o) σ (upd H p o) := by
  have hF : F p = none := by
    cases e : F p with
    | none => rfl
    | some u => rw [R.le p u e] at hp; cases hp
  have sub : Sub F (upd F p o) := fun a u e => by
    rw [upd_ne (ne_of_none e hF)]
    exact e
  refine ⟨fun a u e => ?_, R.len, fun i s e => ?_, R.ap⟩
  · by_cases h : a = p
    · subst h
      rw [upd_same] at e ⊢
      exact e
    · rw [upd_ne h] at e ⊢
      exact R.le a u e
  · have z := R.sl i s e
    cases s with
    | un => exact trivial
    | sh d =>
      obtain ⟨x, h1, h2⟩ := z
      exact ⟨x, h1, h2.mono sub⟩
    | mu w l c =>
      obtain ⟨a, u, h1, h2, h3, h4⟩ := z
      have ne := ne_of_none h3 hp
      exact ⟨a, u, h1, by rw [upd_ne ne]; exact h2, by rw [upd_ne ne]; exact h3, h4.mono sub⟩
theorem Stp.laid {p : Addr} {o : HO} (hp : H p = none) : Stp env σ F H env σ (upd F p o) (upd H p o) where
  keep := fun b hb _ => by
    have ne : b ≠ p := fun z => by rw [z, hp] at hb; exact hb rfl
    exact ⟨upd_ne ne, upd_ne ne⟩
  dom := fun b hb => by
    rw [upd_ne fun z => by rw [z, hp] at hb; exact hb rfl]
    exact hb
  newL := fun _ h => .inl h
  newM := fun _ h => .inl h
  bor := fun _ l c e => ⟨rfl, l, c, e⟩
  lkd := fun _ _ c e => ⟨⟨c, e⟩, rfl⟩
theorem sub_laid {p : Addr} {o : HO} (R : Rel K env F σ H) (hp : H p = none) : Sub F (upd F p o) := fun a u e => by
  have hF : F p = none := by
    cases e : F p with
    | none => rfl
    | some u => rw [R.le p u e] at hp; cases hp
  rw [upd_ne (ne_of_none e hF)]
  exact e
/-- a scalar is handed on -/
theorem EPost.sc {W : WX} {Q : VK} {e1 : Env} {F1 H1 : Hp} {d : D} {v : V} (p : EPost K W env F σ H Q (.ok (.d d) e1)) (R : Rel K e1 F1 σ H1) (S : Stp env σ F H e1 σ F1 H1) (s : Sc v d) : Q v H1 := p v F1 H1 R S (s _ _)
theorem EPost.rep {W : WX} {Q : VK} {e1 : Env} {F1 H1 : Hp} {d : D} {v : V} (p : EPost K W env F σ H Q (.ok (.d d) e1)) (R : Rel K e1 F1 σ H1) (S : Stp env σ F H e1 σ F1 H1) (s : Rep K F1 v d) : Q v H1 := p v F1 H1 R S s
/-- a new list -/
theorem EPost.list {W : WX} {Q : VK} {e1 : Env} {F1 H1 : Hp} {ds : List D} {xs : List V} (p : EPost K W env F σ H Q (.ok (.fr (.lst ds)) e1)) (R : Rel K e1 F1 σ H1) (S : Stp env σ F H e1 σ F1 H1) (s : RepL K F1 xs ds) (q : Addr) (hq : H1 q = none) :
    Q (.ref q) (upd H1 q (.lst xs)) := by
  have hF : F1 q = none := by
    cases e : F1 q with
    | none => rfl
    | some u => rw [R.le q u e] at hq; cases hq
  refine p _ F1 _ (R.fresh hq) (S.trans (Stp.fresh hq)) ⟨q, _, rfl, Classical.byContradiction fun z => S.dom q z hq, hF, upd_same, .lst s, fresh_ma R hq⟩
/-- a new tuple -/
theorem EPost.tup {W : WX} {Q : VK} {e1 : Env} {F1 H1 : Hp} {ds : List D} {xs : List V} (p : EPost K W env F σ H Q (.ok (.d (.tuple ds)) e1)) (R : Rel K e1 F1 σ H1) (S : Stp env σ F H e1 σ F1 H1) (s : RepL K F1 xs ds) (q : Addr) (hq : H1 q = none) :
    Q (.ref q) (upd H1 q (.tup xs)) :=
  p _ _ _ (R.laid hq) (S.trans (Stp.laid hq)) (.tup (SqT.of upd_same) (s.mono (sub_laid R hq)))
end

/-! ### names and constants -/
def eVar (i : Nat) : Env → Res Rv := fun env => match env[i]? with
  | some (.sh d) => .ok (.d d) env
  | some (.mu _ _ _) => .ok (.sl i) env
  | _ => .stuck
def eC (d : D) : Env → Res Rv := fun env => .ok (.d d) env
section
variable {X : Cx} {W : WX} {pos : Pos}
theorem SE.var {i : Nat} {x : Str} (hN : X.N[i]? = some x) (hv : Vis X.env.scope x) (hd : (x == ("__debug__" : Str)) = false := by decide) (hcd : (x == ("__classdict__" : Str)) = false := by decide) : SE X W (.Name x pos) (eVar i) := by
  refine PE.imp (pe_var hN hv hd hcd) fun σ H Q h => ?_
  obtain ⟨env, F, R, p⟩ := h
  unfold eVar at p
  cases q : env[i]? with
  | none => rw [q] at p; exact p.elim
  | some s =>
    rw [q] at p
    have z := R.sl i s q
    cases s with
    | un => exact p.elim
    | sh d =>
      obtain ⟨v, h1, h2⟩ := z
      exact ⟨v, h1, p v F H R Stp.refl h2⟩
    | mu w l c =>
      obtain ⟨a, o, h1, h2, h3, h4⟩ := z
      exact ⟨_, h1, p _ F H R Stp.refl h1⟩
theorem SE.cst {e : Expr} {v : V} {d : D} (h : PE X e (tC v)) (s : Sc v d) : SE X W e (eC d) := by
  refine PE.imp h fun σ H Q h => ?_
  obtain ⟨env, F, R, p⟩ := h
  exact p.sc R Stp.refl s
theorem SE.int {i : Int} {j} : SE X W (.Constant (.int i) j pos) (eC (.int i)) := SE.cst pe_int (sc_int i)
theorem SE.bl {b : Bool} {j} : SE X W (.Constant (.bool b) j pos) (eC (.bool b)) := SE.cst pe_bl (sc_bl b)
theorem SE.non {j} : SE X W (.Constant .none j pos) (eC .none) := SE.cst pe_non sc_non
theorem SE.str {x : Str} {j} : SE X W (.Constant (.str x) j pos) (eC (.str x)) := SE.cst pe_str (sc_str x)
/-- a module's constant that is an int, a text -/
theorem SE.globI {x : Str} {i : Int} {t : Tok} (hg : Gl X x) (hm : X.mg x = some (.int i t)) (hd : (x == ("__debug__" : Str)) = false := by decide) : SE X W (.Name x pos) (eC (.int i)) := SE.cst (pe_glob (v := .int i) hg hm ⟨t, rfl⟩ hd) (sc_int i)
theorem SE.globS {x z : Str} {t : Tok} (hg : Gl X x) (hm : X.mg x = some (.str z t)) (hd : (x == ("__debug__" : Str)) = false := by decide) : SE X W (.Name x pos) (eC (.str z)) := SE.cst (pe_glob (v := .str z) hg hm ⟨t, rfl⟩ hd) (sc_str z)
end

/-! ### operators on data -/
def eUn (g : D → Option D) (fa : Env → Res Rv) : Env → Res Rv := fun env => (fa env).bind fun ra e1 => match (peek e1 ra).bind g with
  | some d => .ok (.d d) e1
  | none => .stuck
def eBin (g : D → D → Option D) (fa fb : Env → Res Rv) : Env → Res Rv := fun env => (fa env).bind fun ra e1 => (fb e1).bind fun rb e2 => match (peek e2 ra).bind fun x => (peek e2 rb).bind fun y => g x y with
  | some d => .ok (.d d) e2
  | none => .stuck
/-- the law of such an operator: it gives a scalar -/
def Op2 (X : Cx) (r : R2) (g : D → D → Option D) : Prop := ∀ x y dx dy d H Q, Rep X.K H x dx → Rep X.K H y dy → g dx dy = some d → (∀ v, Sc v d → Q v H) → r x y H Q
section
variable {X : Cx} {W : WX} {a b : Expr} {fa fb : Env → Res Rv} {pos : Pos} {g : D → D → Option D} {r : R2}
theorem use_bin (o2 : Op2 X r g) {σ : St} {H : Hp} {Q : VK} (h : tE X.K W (eBin g fa fb) σ H Q) : tE X.K W fa σ H fun x H1 => tE X.K W fb σ H1 fun y H2 => r x y H2 Q := by
  obtain ⟨env, F, R, p⟩ := h
  refine use2 R p fun ra rb e2 x y F2 H2 R2 S2 V1 V2 p2 => ?_
  cases h1 : peek e2 ra with
  | none => rw [h1] at p2; exact p2.elim
  | some dx =>
    cases h2 : peek e2 rb with
    | none => rw [h1, h2] at p2; exact p2.elim
    | some dy =>
      rw [h1, h2] at p2
      cases h3 : g dx dy with
      | none =>
        have p3 : EPost X.K W env F σ H Q (match g dx dy with | some d => .ok (.d d) e2 | none => .stuck) := p2
        rw [h3] at p3
        exact p3.elim
      | some d =>
        have p3 : EPost X.K W env F σ H Q (match g dx dy with | some d => .ok (.d d) e2 | none => .stuck) := p2
        rw [h3] at p3
        exact o2 x y dx dy d H2 Q (peek_rep R2 V1 h1) (peek_rep R2 V2 h2) h3 fun v s => p3.sc R2 S2 s
theorem SE.op {op : Operator} (ho : OpR X (binaryOp op) r) (o2 : Op2 X r g) (sa : SE X W a fa) (sb : SE X W b fb) : SE X W (.BinOp a op b pos) (eBin g fa fb) :=
  PE.imp (pe_op ho sa sb) fun _ _ _ h => use_bin o2 h
theorem SE.cmp {op : CmpOp} (ho : OpR X (compareOp op) r) (o2 : Op2 X r g) (sa : SE X W a fa) (sb : SE X W b fb) (hm : behindInMarks op b = false) : SE X W (.Compare a [op] [b] pos) (eBin g fa fb) :=
  PE.imp (pe_cmpR ho sa sb hm) fun _ _ _ h => use_bin o2 h
end
/-- ints -/
def gI (f : Int → Int → Option D) : D → D → Option D
  | .int i, .int j => f i j
  | _, _ => none
theorem rep_int {K : PySem.W.Frag} {H : Hp} {x : V} {i : Int} (h : Rep K H x (.int i)) : x = .int i := by
  cases h
  rfl
section
variable {X : Cx}
theorem Op2.ints {C : Int → Int → Prop} {m : Int → Int → V} {f : Int → Int → Option D} (hf : ∀ i j d, f i j = some d → C i j ∧ Sc (m i j) d) : Op2 X (rI C m) (gI f) := by
  intro x y dx dy d H Q h1 h2 e q
  cases dx <;> first | (cases e; done) | skip
  cases dy <;> first | (cases e; done) | skip
  rw [rep_int h1, rep_int h2]
  obtain ⟨c, s⟩ := hf _ _ _ e
  exact ⟨_, _, rfl, rfl, c, q _ s⟩
theorem Op2.ints0 {m : Int → Int → V} {f : Int → Int → Option D} (hf : ∀ i j d, f i j = some d → Sc (m i j) d) : Op2 X (rI0 m) (gI f) := by
  intro x y dx dy d H Q h1 h2 e q
  cases dx <;> first | (cases e; done) | skip
  cases dy <;> first | (cases e; done) | skip
  rw [rep_int h1, rep_int h2]
  exact ⟨_, _, rfl, rfl, q _ (hf _ _ _ e)⟩
def gAdd : D → D → Option D := gI fun i j => some (.int (i + j))
def gSub : D → D → Option D := gI fun i j => some (.int (i - j))
theorem o2_add : Op2 X (rI0 fun i j => .int (i + j)) gAdd := Op2.ints0 fun i j d e => by cases e; exact sc_int _
theorem o2_sub : Op2 X (rI0 fun i j => .int (i - j)) gSub := Op2.ints0 fun i j d e => by cases e; exact sc_int _
def gLt : D → D → Option D := gI fun i j => some (.bool (decide (i < j)))
def gLe : D → D → Option D := gI fun i j => some (.bool (decide (i ≤ j)))
def gGt : D → D → Option D := gI fun i j => some (.bool (decide (j < i)))
def gGe : D → D → Option D := gI fun i j => some (.bool (decide (j ≤ i)))
theorem o2_lt : Op2 X (rI0 fun i j => .bl (decide (i < j))) gLt := Op2.ints0 fun i j d e => by cases e; exact sc_bl _
theorem o2_le : Op2 X (rI0 fun i j => .bl (decide (i ≤ j))) gLe := Op2.ints0 fun i j d e => by cases e; exact sc_bl _
theorem o2_gt : Op2 X (rI0 fun i j => .bl (decide (j < i))) gGt := Op2.ints0 fun i j d e => by cases e; exact sc_bl _
theorem o2_ge : Op2 X (rI0 fun i j => .bl (decide (j ≤ i))) gGe := Op2.ints0 fun i j d e => by cases e; exact sc_bl _
end
end PL

set_option Elab.async false
set_option linter.all false
set_option maxRecDepth 100000
set_option maxHeartbeats 2000000
namespace PL
open PySem PySem.Spec PyProof.Rows L2

/-! ### more ints -/
section
variable {X : Cx}
def gMul : D → D → Option D := gI fun i j => if (-18446744073709551616 < i ∧ i < 18446744073709551616) ∨ (-18446744073709551616 < j ∧ j < 18446744073709551616) then some (.int (i * j)) else none
def gDiv : D → D → Option D := gI fun i j => if 0 < j ∧ j < 18446744073709551616 then some (.int (i / j)) else none
def gMod : D → D → Option D := gI fun i j => if 0 < j then some (.int (i % j)) else none
theorem o2_mul : Op2 X (rI CMul fun i j => .int (i * j)) gMul := Op2.ints fun i j d e => by
  split at e
  · rename_i h
    cases e
    refine ⟨?_, sc_int _⟩
    unfold CMul
    have e64 : (2 : Int) ^ 64 = 18446744073709551616 := by decide
    rw [e64]
    exact h
  · cases e
theorem o2_div : Op2 X (rI CDivW fun i j => .int (i / j)) gDiv := Op2.ints fun i j d e => by
  split at e
  · rename_i h
    cases e
    exact ⟨wide_div (b := 64) h.1 (by have e64 : (2 : Nat) ^ 64 = 18446744073709551616 := by decide
                                      rw [e64]; omega) (by decide) (by decide), sc_int _⟩
  · cases e
theorem o2_mod : Op2 X (rI (fun _ j => 0 < j) fun i j => .int (i % j)) gMod := Op2.ints fun i j d e => by
  split at e
  · rename_i h
    cases e
    exact ⟨h, sc_int _⟩
  · cases e
end

/-! ### == and in -/
/-- no object, no dict within -/
abbrev lay (d : D) : Bool := PyData.canLay0 d
mutual
theorem Rep.dp {K : PySem.W.Frag} {H : Hp} : ∀ {d : D} {v : V}, Rep K H v d → lay d = true → Dp K H v d
  | .none, _, h, _ => by cases h; exact .non
  | .bool b, _, h, _ => by cases h; exact .bl b
  | .int i, _, h, _ => by cases h; exact .int i
  | .str x, _, h, _ => by cases h; exact .str x
  | .list ds, _, h, l => by
    cases h with
    | lst h1 h2 => exact .lst (SqL.of h1) (RepL.dp h2 (by simpa [lay, PyData.canLay0] using l))
  | .tuple ds, _, h, l => by
    cases h with
    | tup h1 h2 => exact .tup h1 (RepL.dp h2 (by simpa [lay, PyData.canLay0] using l))
  | .dict _, _, _, l => by simp [lay, PyData.canLay0] at l
theorem RepL.dp {K : PySem.W.Frag} {H : Hp} : ∀ {ds : List D} {vs : List V}, RepL K H vs ds → PyData.canLayAll0 ds = true → DpAll K H vs ds
  | [], _, h, _ => by cases h; exact .nil
  | d :: ds, _, h, l => by
    have l' : d.canLay0 = true ∧ PyData.canLayAll0 ds = true := by simpa [PyData.canLayAll0] using l
    cases h with
    | cons h1 h2 => exact .cons (Rep.dp h1 l'.1) (RepL.dp h2 l'.2)
end
def eqOk (x y : D) : Bool := lay x && (lay y && decide (min x.depth y.depth ≤ 64))
def gEq : D → D → Option D := fun x y => if eqOk x y then some (.bool (PyData.eqv x y)) else none
def gNe : D → D → Option D := fun x y => if eqOk x y then some (.bool (!PyData.eqv x y)) else none
def inOk (x : D) (ds : List D) : Bool := lay x && (PyData.canLayAll0 ds && decide (x.depth ≤ 64))
def gIn : D → D → Option D
  | x, .list ds => if inOk x ds then some (.bool (ds.any fun z => PyData.eqv z x)) else none
  | x, .tuple ds => if inOk x ds then some (.bool (ds.any fun z => PyData.eqv z x)) else none
  | _, _ => none
def gNin : D → D → Option D
  | x, .list ds => if inOk x ds then some (.bool (!ds.any fun z => PyData.eqv z x)) else none
  | x, .tuple ds => if inOk x ds then some (.bool (!ds.any fun z => PyData.eqv z x)) else none
  | _, _ => none
def rEqG (K : PySem.W.Frag) (g : D → D → Bool) : R2 := fun x y H Q => ∃ d e, Dp K H x d ∧ Dp K H y e ∧ eqOk d e = true ∧ Q (.bl (g d e)) H
def rInG (K : PySem.W.Frag) (g : List D → D → Bool) : R2 := fun x y H Q => ∃ d ds, Dp K H x d ∧ (Dp K H y (.list ds) ∨ Dp K H y (.tuple ds)) ∧ inOk d ds = true ∧ Q (.bl (g ds d)) H
section
variable {X : Cx}
theorem op_eqG (hu : X.A.units + 64 < cLine) : OpR X (compareOp .Eq) (rEqG X.K PyData.eqv) := by
  intro pins s σ H x y v u Q I rx ry h
  obtain ⟨d, e, hd, he, ok, q⟩ := h
  obtain ⟨as, r1⟩ := Dp.reads I d x v hd rx
  obtain ⟨bs, r2⟩ := Dp.reads I e y u he ry
  simp only [eqOk, Bool.and_eq_true, decide_eq_true_eq] at ok
  exact SeqAt.compareEq_reads r1 r2 ok.1 ok.2.1 (by have := ok.2.2; omega) ⟨.bl _, H, I, rfl, q⟩
theorem op_neG (hu : X.A.units + 64 < cLine) : OpR X (compareOp .NotEq) (rEqG X.K fun d e => !PyData.eqv d e) := by
  intro pins s σ H x y v u Q I rx ry h
  obtain ⟨d, e, hd, he, ok, q⟩ := h
  obtain ⟨as, r1⟩ := Dp.reads I d x v hd rx
  obtain ⟨bs, r2⟩ := Dp.reads I e y u he ry
  simp only [eqOk, Bool.and_eq_true, decide_eq_true_eq] at ok
  exact SeqAt.compareNe_reads r1 r2 ok.1 ok.2.1 (by have := ok.2.2; omega) ⟨.bl _, H, I, rfl, q⟩
theorem op_inG (hu : X.A.units + 65 < cLine) : OpR X (compareOp .In) (rInG X.K fun ds d => ds.any fun z => PyData.eqv z d) := by
  intro pins s σ H x y v u Q I rx ry h
  obtain ⟨d, ds, hd, he, ok, q⟩ := h
  obtain ⟨as, r1⟩ := Dp.reads I d x v hd rx
  simp only [inOk, Bool.and_eq_true, decide_eq_true_eq] at ok
  rcases he with he | he
  · obtain ⟨bs, r2⟩ := Dp.reads I _ y u he ry
    exact SeqAt.in_list_reads r2 r1 ok.2.1 ok.1 (by have := ok.2.2; omega) ⟨.bl _, H, I, rfl, q⟩
  · obtain ⟨bs, r2⟩ := Dp.reads I _ y u he ry
    exact SeqAt.in_tuple_reads r2 r1 ok.2.1 ok.1 (by have := ok.2.2; omega) ⟨.bl _, H, I, rfl, q⟩
theorem op_ninG (hu : X.A.units + 65 < cLine) : OpR X (compareOp .NotIn) (rInG X.K fun ds d => !ds.any fun z => PyData.eqv z d) := by
  intro pins s σ H x y v u Q I rx ry h
  obtain ⟨d, ds, hd, he, ok, q⟩ := h
  obtain ⟨as, r1⟩ := Dp.reads I d x v hd rx
  simp only [inOk, Bool.and_eq_true, decide_eq_true_eq] at ok
  rcases he with he | he
  · obtain ⟨bs, r2⟩ := Dp.reads I _ y u he ry
    exact SeqAt.notIn_list_reads r2 r1 ok.2.1 ok.1 (by have := ok.2.2; omega) ⟨.bl _, H, I, rfl, q⟩
  · obtain ⟨bs, r2⟩ := Dp.reads I _ y u he ry
    exact SeqAt.notIn_tuple_reads r2 r1 ok.2.1 ok.1 (by have := ok.2.2; omega) ⟨.bl _, H, I, rfl, q⟩
theorem o2_eqG {g : D → D → Bool} : Op2 X (rEqG X.K g) (fun x y => if eqOk x y then some (.bool (g x y)) else none) := by
  intro x y dx dy d H Q h1 h2 e q
  dsimp only at e
  split at e
  · rename_i ok
    cases e
    have ok' := ok
    simp only [eqOk, Bool.and_eq_true] at ok'
    exact ⟨dx, dy, Rep.dp h1 ok'.1, Rep.dp h2 ok'.2.1, ok, q _ (sc_bl _)⟩
  · cases e
theorem o2_eq : Op2 X (rEqG X.K PyData.eqv) gEq := o2_eqG
theorem o2_ne : Op2 X (rEqG X.K fun d e => !PyData.eqv d e) gNe := o2_eqG
theorem o2_in : Op2 X (rInG X.K fun ds d => ds.any fun z => PyData.eqv z d) gIn := by
  intro x y dx dy d H Q h1 h2 e q
  cases dy <;> first | (cases e; done) | skip
  all_goals
    rename_i ds
    dsimp only [gIn] at e
    split at e
    · rename_i ok
      cases e
      have ok' := ok
      simp only [inOk, Bool.and_eq_true] at ok'
      refine ⟨dx, ds, Rep.dp h1 ok'.1, ?_, ok, q _ (sc_bl _)⟩
      first
        | exact .inl (Rep.dp h2 (by simpa [lay, PyData.canLay0] using ok'.2.1))
        | exact .inr (Rep.dp h2 (by simpa [lay, PyData.canLay0] using ok'.2.1))
    · cases e
theorem o2_nin : Op2 X (rInG X.K fun ds d => !ds.any fun z => PyData.eqv z d) gNin := by
  intro x y dx dy d H Q h1 h2 e q
  cases dy <;> first | (cases e; done) | skip
  all_goals
    rename_i ds
    dsimp only [gNin] at e
    split at e
    · rename_i ok
      cases e
      have ok' := ok
      simp only [inOk, Bool.and_eq_true] at ok'
      refine ⟨dx, ds, Rep.dp h1 ok'.1, ?_, ok, q _ (sc_bl _)⟩
      first
        | exact .inl (Rep.dp h2 (by simpa [lay, PyData.canLay0] using ok'.2.1))
        | exact .inr (Rep.dp h2 (by simpa [lay, PyData.canLay0] using ok'.2.1))
    · cases e
/-- is: with None, with a truth -/
def isNone : D → Bool
  | .none => true
  | _ => false
def gIsN : D → D → Option D
  | d, .none => some (.bool (isNone d))
  | _, _ => none
def gNotN : D → D → Option D
  | d, .none => some (.bool (!isNone d))
  | _, _ => none
theorem rep_none {K : PySem.W.Frag} {H : Hp} {v : V} {d : D} (h : Rep K H v d) : decide (v = .non) = isNone d := by
  cases h <;> first | rfl | simp [isNone]
theorem o2_isN : Op2 X (fun x y H Q => y = .non ∧ Q (.bl (decide (x = .non))) H) gIsN := by
  intro x y dx dy d H Q h1 h2 e q
  cases dy <;> first | (cases e; done) | skip
  cases e
  cases h2
  exact ⟨rfl, by rw [rep_none h1]; exact q _ (sc_bl _)⟩
theorem o2_notN : Op2 X (fun x y H Q => y = .non ∧ Q (.bl (!decide (x = .non))) H) gNotN := by
  intro x y dx dy d H Q h1 h2 e q
  cases dy <;> first | (cases e; done) | skip
  cases e
  cases h2
  exact ⟨rfl, by rw [rep_none h1]; exact q _ (sc_bl _)⟩
def gIsB : D → D → Option D
  | .bool a, .bool b => some (.bool (decide (a = b)))
  | _, _ => none
def gNotB : D → D → Option D
  | .bool a, .bool b => some (.bool (!decide (a = b)))
  | _, _ => none
theorem o2_isB : Op2 X rIsB gIsB := by
  intro x y dx dy d H Q h1 h2 e q
  cases dx <;> first | (cases e; done) | skip
  cases dy <;> first | (cases e; done) | skip
  cases e
  cases h1
  cases h2
  exact ⟨_, _, rfl, rfl, q _ (sc_bl _)⟩
theorem o2_notB : Op2 X rNotB gNotB := by
  intro x y dx dy d H Q h1 h2 e q
  cases dx <;> first | (cases e; done) | skip
  cases dy <;> first | (cases e; done) | skip
  cases e
  cases h1
  cases h2
  exact ⟨_, _, rfl, rfl, q _ (sc_bl _)⟩
end

/-! ### a subscript -/
def atD (ds : List D) (i : Int) : Option D := atI ds i
theorem atI_rep {K : PySem.W.Frag} {H : Hp} {xs : List V} {ds : List D} {i : Int} {d : D} (h : RepL K H xs ds) (e : atI ds i = some d) : ∃ v, atI xs i = some v ∧ Rep K H v d := by
  unfold atI at e ⊢
  rw [h.length]
  cases q : ixN ds.length i with
  | none => rw [q] at e; cases e
  | some j =>
    rw [q] at e
    exact h.get e
def gIx : D → D → Option D
  | .list ds, .int i => atI ds i
  | .tuple ds, .int i => atI ds i
  | .dict [(.bool true, .list ds)], .int i => atI ds i
  | .str z, .int i => if z.length ≤ 16777216 then (atI z.cps.toList i).map fun c => .str ⟨#[c]⟩ else none
  | _, _ => none
theorem gIx_dict {kvs : List (D × D)} {dy d : D} (h : gIx (.dict kvs) dy = some d) : ∃ ds i, kvs = [(.bool true, .list ds)] ∧ dy = .int i ∧ atI ds i = some d := by
  unfold gIx at h
  split at h
  · rename_i q; cases q
  · rename_i q; cases q
  · rename_i ds i q; cases q; exact ⟨ds, i, rfl, rfl, h⟩
  · rename_i q; cases q
  · cases h
/-- e1[e2]: an item of data -/
def eIx (fa fb : Env → Res Rv) : Env → Res Rv := fun env => (fa env).bind fun ra e1 => (fb e1).bind fun rb e2 => match (peek e2 ra).bind fun x => (peek e2 rb).bind fun y => gIx x y with
  | some d => .ok (.d d) e2
  | none => .stuck
/-- what a value's items are told by: the frozen part -/
theorem peek_items {K : PySem.W.Frag} {F H H0 : Hp} {env : Env} {σ : St} {r : Rv} {v : V} {d : D} (R : Rel K env F σ H) (V : RvRel K H0 F H env σ r v) (e : peek env r = some d) :
    (∀ ds, d = .list ds → ∃ a xs, v = .ref a ∧ H a = some (.lst xs) ∧ RepL K F xs ds) ∧ ((∀ ds, d ≠ .list ds) → (∀ kvs, d ≠ .dict kvs) → Rep K F v d) ∧ (∀ ds, d = .dict [(.bool true, .list ds)] → Rep K F v d) := by
  rcases peek_top R V e with h | ⟨a, o, c, rfl, h1, h2, h3⟩
  · refine ⟨fun ds q => ?_, fun _ _ => h, fun _ _ => h⟩
    subst q
    cases h with
    | lst h1 h2 => exact ⟨_, _, rfl, R.le _ _ h1, h2⟩
  · cases h2 with
    | lst h =>
      cases h3
      refine ⟨fun ds q => ?_, fun n _ => absurd rfl (n _), fun ds q => ?_⟩
      · cases q
        exact ⟨a, _, rfl, h1, h⟩
      · cases q
    | ins e1 h =>
      cases h3
      refine ⟨fun ds q => ?_, fun _ n => absurd rfl (n _), fun ds q => ?_⟩
      · cases q
      · cases q
    | dct e1 h =>
      rename_i fs gs
      cases h3
      refine ⟨fun ds q => ?_, fun _ n => absurd rfl (n _), fun ds q => ?_⟩
      · cases q
      cases gs with
      | nil => cases q
      | cons g gs =>
        have q' : (keyD g.1, g.2) :: gs.map (fun g => (keyD g.1, g.2)) = [(PyData.bool true, PyData.list ds)] := PyData.dict.inj q
        have z : keyD g.1 = .bool true := congrArg Prod.fst (List.cons.inj q').1
        cases hg : g.1 <;> (rw [hg] at z; cases z)
section
variable {X : Cx} {W : WX} {a b : Expr} {fa fb : Env → Res Rv} {pos : Pos}
theorem SE.ix (sa : SE X W a fa) (sb : SE X W b fb) (hs : PlainIx b) : SE X W (.Subscript a b pos) (eIx fa fb) := by
  refine PE.imp (pe_ix ix_seq sa sb hs) fun σ H Q h => ?_
  obtain ⟨env, F, R, p⟩ := h
  refine use2 R p fun ra rb e2 x y F2 H2 R2 S2 V1 V2 p2 => ?_
  cases h1 : peek e2 ra with
  | none => rw [h1] at p2; exact p2.elim
  | some dx =>
    cases h2 : peek e2 rb with
    | none => rw [h1, h2] at p2; exact p2.elim
    | some dy =>
      rw [h1, h2] at p2
      have p3 : EPost X.K W env F σ H Q (match gIx dx dy with | some d => .ok (.d d) e2 | none => .stuck) := p2
      cases h3 : gIx dx dy with
      | none =>
        rw [h3] at p3
        exact p3.elim
      | some d =>
        rw [h3] at p3
        obtain ⟨m1, m2, m3⟩ := peek_items R2 V1 h1
        have ry := peek_rep R2 V2 h2
        cases dx with
        | list ds =>
          cases dy <;> first | (cases h3; done) | skip
          obtain ⟨q, xs, rfl, h4, h5⟩ := m1 ds rfl
          obtain ⟨v, h6, h7⟩ := atI_rep h5 h3
          rw [rep_int ry]
          exact .inl ⟨_, _, _, _, rfl, rfl, SqL.of h4, h6, p3.rep R2 S2 h7⟩
        | tuple ds =>
          cases dy <;> first | (cases h3; done) | skip
          cases m2 (fun _ z => by cases z) (fun _ z => by cases z) with
          | tup h4 h5 =>
            obtain ⟨v, h6, h7⟩ := atI_rep h5 h3
            rw [rep_int ry]
            exact .inr (.inl ⟨_, _, _, _, rfl, rfl, sqT_sub h4 R2.le, h6, p3.rep R2 S2 h7⟩)
        | str z =>
          cases dy <;> first | (cases h3; done) | skip
          cases m2 (fun _ z => by cases z) (fun _ z => by cases z)
          rw [rep_int ry]
          dsimp only [gIx] at h3
          split at h3
          · rename_i hz
            obtain ⟨c, h6, h7⟩ := Option.map_eq_some_iff.mp h3
            subst h7
            exact .inr (.inr ⟨_, _, _, rfl, rfl, by rw [sizeLine_eq]; exact hz, h6, p3.sc R2 S2 (sc_str _)⟩)
          · cases h3
        | dict kvs =>
          obtain ⟨ds, i, rfl, rfl, h3⟩ := gIx_dict h3
          have m4 := m3 ds rfl
          generalize hk : PyData.dict [(PyData.bool true, PyData.list ds)] = dd at m4
          cases m4 <;> first | (cases hk; done) | skip
          · rename_i h4 h5
            cases hk
            obtain ⟨v, h6, h7⟩ := atI_rep h5 h3
            rw [rep_int ry]
            exact .inl ⟨_, _, _, _, rfl, rfl, sqL_sub h4 R2.le, h6, p3.rep R2 S2 h7⟩
          · rename_i fs kvs h4 h5
            have hk' := PyData.dict.inj hk
            subst hk'
            generalize hz : PyData.bool true = zz at h5
            cases h5
            rename_i k _ _ _ _
            cases k <;> cases hz
        | _ => cases h3
end

/-! ### truth, and, or, not, if -/
def tru : D → Option Bool
  | .none => some false
  | .bool b => some b
  | .int i => some (i != 0)
  | .str z => if z.length ≤ 16777216 then some ((z.length : Int) != 0) else none
  | .list ds => some (!ds.isEmpty)
  | .tuple ds => some (!ds.isEmpty)
  | .dict _ => none
theorem RepL.isEmpty {K : PySem.W.Frag} {H : Hp} {xs : List V} {ds : List D} (h : RepL K H xs ds) : xs.isEmpty = ds.isEmpty := by
  cases ds with
  | nil => cases h; rfl
  | cons d ds => cases h with | cons _ _ => rfl
theorem tru_rep {K : PySem.W.Frag} {H : Hp} {v : V} {d : D} {k : Bool} (h : Rep K H v d) (e : tru d = some k) : TruV K v H k := by
  cases h with
  | non => cases e; rfl
  | bl b => cases e; rfl
  | int i => cases e; rfl
  | str x =>
    dsimp only [tru] at e
    split at e
    · rename_i hz
      cases e
      exact ⟨by rw [sizeLine_eq]; exact hz, rfl⟩
    · cases e
  | lst h1 h2 => cases e; exact .inl ⟨_, SqL.of h1, by rw [h2.isEmpty]⟩
  | tup h1 h2 => cases e; exact .inr (.inl ⟨_, h1, by rw [h2.isEmpty]⟩)
  | scr _ _ => cases e
  | ins _ _ => cases e
  | dct _ _ => cases e
def eAnd (fa fb : Env → Res Rv) : Env → Res Rv := fun env => (fa env).bind fun ra e1 => match (peek e1 ra).bind tru with
  | some true => fb e1
  | some false => .ok ra e1
  | none => .stuck
def eOr (fa fb : Env → Res Rv) : Env → Res Rv := fun env => (fa env).bind fun ra e1 => match (peek e1 ra).bind tru with
  | some false => fb e1
  | some true => .ok ra e1
  | none => .stuck
def eNot (fa : Env → Res Rv) : Env → Res Rv := fun env => (fa env).bind fun ra e1 => match (peek e1 ra).bind tru with
  | some k => .ok (.d (.bool (!k))) e1
  | none => .stuck
def eIf (t : Env → Res Bool) (fa fb : Env → Res Rv) : Env → Res Rv := fun env => (t env).bind fun k e1 => if k then fa e1 else fb e1
/-- a value as a test -/
def tVal (fa : Env → Res Rv) : Env → Res Bool := fun env => (fa env).bind fun ra e1 => match (peek e1 ra).bind tru with
  | some k => .ok k e1
  | none => .stuck
def tAnd2 (t u : Env → Res Bool) : Env → Res Bool := fun env => (t env).bind fun k e1 => if k then u e1 else .ok false e1
def tOr2 (t u : Env → Res Bool) : Env → Res Bool := fun env => (t env).bind fun k e1 => if k then .ok true e1 else u e1
def tNot1 (t : Env → Res Bool) : Env → Res Bool := fun env => (t env).bind fun k e1 => .ok (!k) e1
section
variable {K : PySem.W.Frag} {F G H H0 : Hp} {env e1 : Env} {σ : St} {F1 H1 : Hp} {W : WX}
theorem EPost.then {Q : VK} {r : Res Rv} (p : EPost K W env F σ H Q r) (S : Stp env σ F H e1 σ F1 H1) : EPost K W e1 F1 σ H1 Q r := by
  cases r with
  | stuck => exact p
  | ok ra e2 => exact fun v F' H' R' S' V' => p v F' H' R' (S.trans S') (V'.older S.dom)
  | exc x e2 => exact fun c d F' H' R' S' V' => p c d F' H' R' (S.trans S') V'
theorem TPost.then {Q : Bool → Hp → Prop} {r : Res Bool} (p : TPost K W env F σ H Q r) (S : Stp env σ F H e1 σ F1 H1) : TPost K W e1 F1 σ H1 Q r := by
  cases r with
  | stuck => exact p
  | ok ra e2 => exact fun F' H' R' S' => p F' H' R' (S.trans S')
  | exc x e2 => exact fun c d F' H' R' S' V' => p c d F' H' R' (S.trans S') V'
/-- an expression, then anything -/
theorem useE {α : Type} {fa : Env → Res Rv} {k : Rv → Env → Res α} {P : Res α → Prop} {G : V → Hp → Prop} (R : Rel K env F σ H) (p : P ((fa env).bind k)) (h0 : P .stuck → False)
    (hx : ∀ x e, P (.exc x e) → ∀ cls d F' H', Rel K e F' σ H' → Stp env σ F H e σ F' H' → XRel K F' x cls d → W cls d σ H')
    (fin : ∀ ra e1 x F1 H1, Rel K e1 F1 σ H1 → Stp env σ F H e1 σ F1 H1 → RvRel K H F1 H1 e1 σ ra x → P (k ra e1) → G x H1) : tE K W fa σ H G := by
  refine ⟨env, F, R, ?_⟩
  cases ea : fa env with
  | stuck => rw [ea] at p; exact h0 p
  | exc x e1 => rw [ea] at p; exact hx x e1 p
  | ok ra e1 =>
    rw [ea] at p
    intro x F1 H1 R1 S1 V1
    exact fin ra e1 x F1 H1 R1 S1 V1 p
theorem useT {α : Type} {fa : Env → Res Bool} {k : Bool → Env → Res α} {P : Res α → Prop} {G : Bool → Hp → Prop} (R : Rel K env F σ H) (p : P ((fa env).bind k)) (h0 : P .stuck → False)
    (hx : ∀ x e, P (.exc x e) → ∀ cls d F' H', Rel K e F' σ H' → Stp env σ F H e σ F' H' → XRel K F' x cls d → W cls d σ H')
    (fin : ∀ b e1 F1 H1, Rel K e1 F1 σ H1 → Stp env σ F H e1 σ F1 H1 → P (k b e1) → G b H1) : tT K W fa σ H G := by
  refine ⟨env, F, R, ?_⟩
  cases ea : fa env with
  | stuck => rw [ea] at p; exact h0 p
  | exc x e1 => rw [ea] at p; exact hx x e1 p
  | ok ra e1 =>
    rw [ea] at p
    intro F1 H1 R1 S1
    exact fin ra e1 F1 H1 R1 S1 p
theorem peek_tru {r : Rv} {v : V} {k : Bool} (R : Rel K env F σ H) (V : RvRel K H0 F H env σ r v) (e : (peek env r).bind tru = some k) : TruV K v H k := by
  cases h : peek env r with
  | none => rw [h] at e; cases e
  | some d =>
    rw [h] at e
    exact tru_rep (peek_rep R V h) e
end
section
variable {X : Cx} {W : WX} {a b c : Expr} {rest : List Expr} {fa fb : Env → Res Rv} {ta tb : Env → Res Bool} {pos : Pos}
theorem SE.one {op} (sa : SE X W a fa) : SE X W (.BoolOp op [a] pos) fa := pe_one sa
theorem SE.and (sa : SE X W a fa) (sb : SE X W (.BoolOp .And (b :: rest) pos) fb) : SE X W (.BoolOp .And (a :: b :: rest) pos) (eAnd fa fb) := by
  refine PE.imp (pe_andT sa sb) fun σ H Q h => ?_
  obtain ⟨env, F, R, p⟩ := h
  refine useE (P := EPost X.K W env F σ H Q) R p (fun z => z) (fun x e z => z) fun ra e1 x F1 H1 R1 S1 V1 p1 => ?_
  cases hk : (peek e1 ra).bind tru with
  | none => rw [hk] at p1; exact p1.elim
  | some k =>
    rw [hk] at p1
    refine ⟨k, peek_tru R1 V1 hk, ?_⟩
    cases k with
    | true => exact ⟨e1, F1, R1, p1.then S1⟩
    | false => exact p1 x F1 H1 R1 S1 V1
theorem SE.or (sa : SE X W a fa) (sb : SE X W (.BoolOp .Or (b :: rest) pos) fb) : SE X W (.BoolOp .Or (a :: b :: rest) pos) (eOr fa fb) := by
  refine PE.imp (pe_orT sa sb) fun σ H Q h => ?_
  obtain ⟨env, F, R, p⟩ := h
  refine useE (P := EPost X.K W env F σ H Q) R p (fun z => z) (fun x e z => z) fun ra e1 x F1 H1 R1 S1 V1 p1 => ?_
  cases hk : (peek e1 ra).bind tru with
  | none => rw [hk] at p1; exact p1.elim
  | some k =>
    rw [hk] at p1
    refine ⟨k, peek_tru R1 V1 hk, ?_⟩
    cases k with
    | false => exact ⟨e1, F1, R1, p1.then S1⟩
    | true => exact p1 x F1 H1 R1 S1 V1
theorem SE.not (sa : SE X W a fa) : SE X W (.UnaryOp .Not a pos) (eNot fa) := by
  refine PE.imp (pe_notT sa) fun σ H Q h => ?_
  obtain ⟨env, F, R, p⟩ := h
  refine useE (P := EPost X.K W env F σ H Q) R p (fun z => z) (fun x e z => z) fun ra e1 x F1 H1 R1 S1 V1 p1 => ?_
  cases hk : (peek e1 ra).bind tru with
  | none => rw [hk] at p1; exact p1.elim
  | some k =>
    rw [hk] at p1
    exact ⟨k, peek_tru R1 V1 hk, p1.sc R1 S1 (sc_bl _)⟩
theorem SE.ife (st : ST X W c ta) (sa : SE X W a fa) (sb : SE X W b fb) : SE X W (.IfExp c a b pos) (eIf ta fa fb) := by
  refine PE.imp (pe_ifExp st sa sb) fun σ H Q h => ?_
  obtain ⟨env, F, R, p⟩ := h
  refine useT (P := EPost X.K W env F σ H Q) R p (fun z => z) (fun x e z => z) fun k e1 F1 H1 R1 S1 p1 => ?_
  cases k with
  | true => exact ⟨e1, F1, R1, p1.then S1⟩
  | false => exact ⟨e1, F1, R1, p1.then S1⟩
theorem ST.val (sa : SE X W a fa) (he : ∀ whole, isTrue a X.env whole = (do let v ← whole; standAt a.pos; holding [v] (truthy v)) := by intro _; rfl) : ST X W a (tVal fa) := by
  refine PT.imp (pt_truth sa he) fun σ H Q h => ?_
  obtain ⟨env, F, R, p⟩ := h
  refine useE (P := TPost X.K W env F σ H Q) R p (fun z => z) (fun x e z => z) fun ra e1 x F1 H1 R1 S1 V1 p1 => ?_
  cases hk : (peek e1 ra).bind tru with
  | none => rw [hk] at p1; exact p1.elim
  | some k =>
    rw [hk] at p1
    exact ⟨k, peek_tru R1 V1 hk, p1 F1 H1 R1 S1⟩
/-- a comparison as a test -/
def tCmp (g : D → D → Option D) (fa fb : Env → Res Rv) : Env → Res Bool := fun env => (fa env).bind fun ra e1 => (fb e1).bind fun rb e2 => match (peek e2 ra).bind fun x => (peek e2 rb).bind fun y => g x y with
  | some (.bool k) => .ok k e2
  | _ => .stuck
theorem ST.cmp {op : CmpOp} {r : R2} {g : D → D → Option D} (ho : OpR X (compareOp op) r) (o2 : Op2 X r g) (sa : SE X W a fa) (sb : SE X W b fb) (hm : behindInMarks op b = false) : ST X W (.Compare a [op] [b] pos) (tCmp g fa fb) := by
  refine PT.imp (pt_cmpR ho sa sb hm) fun σ H Q h => ?_
  obtain ⟨env, F, R, p⟩ := h
  refine useE (P := TPost X.K W env F σ H Q) R p (fun z => z) (fun x e z => z) fun ra e1 x F1 H1 R1 S1 V1 p1 => ?_
  refine useE (P := TPost X.K W env F σ H Q) R1 p1 (fun z => z) (fun x e z c d F' H' R' S' X' => z c d F' H' R' (S1.trans S') X') fun rb e2 y F2 H2 R2 S2 V2 p2 => ?_
  have V1' := V1.wait R1 S2
  have V2' := V2.older S1.dom
  cases h1 : peek e2 ra with
  | none => rw [h1] at p2; exact p2.elim
  | some dx =>
    cases h2 : peek e2 rb with
    | none => rw [h1, h2] at p2; exact p2.elim
    | some dy =>
      rw [h1, h2] at p2
      have p3 : TPost X.K W env F σ H Q (match g dx dy with | some (.bool k) => .ok k e2 | _ => .stuck) := p2
      cases h3 : g dx dy with
      | none => rw [h3] at p3; exact p3.elim
      | some d =>
        rw [h3] at p3
        cases d <;> first | exact p3.elim | skip
        rename_i k
        refine o2 x y dx dy _ H2 _ (peek_rep R2 V1' h1) (peek_rep R2 V2' h2) h3 fun v s => ⟨k, ?_, p3 F2 H2 R2 (S1.trans S2)⟩
        cases s X.K F2
        rfl
theorem ST.not (sa : ST X W a ta) : ST X W (.UnaryOp .Not a pos) (tNot1 ta) := by
  refine PT.imp (pt_not sa) fun σ H Q h => ?_
  obtain ⟨env, F, R, p⟩ := h
  exact useT (P := TPost X.K W env F σ H Q) R p (fun z => z) (fun x e z => z) fun k e1 F1 H1 R1 S1 p1 => p1 F1 H1 R1 S1
/-- a chain of and, of or, as a test -/
def SW (X : Cx) (W : WX) (e : Expr) (f : Env → Res Bool) : Prop := PW X e (tT X.K W f)
theorem PW.imp {e : Expr} {t t' : TT} (h : PW X e t) (i : ∀ σ H Q, t' σ H Q → t σ H Q) : PW X e t' := ⟨fun wh pins s σ H Q I q => h.run wh pins s σ H Q I (i σ H Q q)⟩
theorem SW.st {e : Expr} {f : Env → Res Bool} (h : SW X W e f) : ST X W e f := PW.pt h
theorem SW.and1 (sa : ST X W a ta) : SW X W (.BoolOp .And [a] pos) ta := pw_and1 sa
theorem SW.or1 (sa : ST X W a ta) : SW X W (.BoolOp .Or [a] pos) ta := pw_or1 sa
theorem SW.and (sa : ST X W a ta) (sb : SW X W (.BoolOp .And (b :: rest) pos) tb) : SW X W (.BoolOp .And (a :: b :: rest) pos) (tAnd2 ta tb) := by
  refine PW.imp (pw_and sa sb) fun σ H Q h => ?_
  obtain ⟨env, F, R, p⟩ := h
  refine useT (P := TPost X.K W env F σ H Q) R p (fun z => z) (fun x e z => z) fun k e1 F1 H1 R1 S1 p1 => ?_
  cases k with
  | true => exact ⟨e1, F1, R1, p1.then S1⟩
  | false => exact p1 F1 H1 R1 S1
theorem SW.or (sa : ST X W a ta) (sb : SW X W (.BoolOp .Or (b :: rest) pos) tb) : SW X W (.BoolOp .Or (a :: b :: rest) pos) (tOr2 ta tb) := by
  refine PW.imp (pw_or sa sb) fun σ H Q h => ?_
  obtain ⟨env, F, R, p⟩ := h
  refine useT (P := TPost X.K W env F σ H Q) R p (fun z => z) (fun x e z => z) fun k e1 F1 H1 R1 S1 p1 => ?_
  cases k with
  | false => exact ⟨e1, F1, R1, p1.then S1⟩
  | true => exact p1 F1 H1 R1 S1
end
end PL

set_option Elab.async false
set_option linter.all false
set_option maxRecDepth 100000
set_option maxHeartbeats 2000000
namespace PL
open PySem PySem.Spec PyProof.Rows L2

/-! ### a mutable object becomes data -/
def frz (env : Env) : Rv → Option (D × Env)
  | .d x => some (x, env)
  | .fr c => (coD c).map fun d => (d, env)
  | .sl i => match env[i]? with
    | some (.sh d) => some (d, env)
    | some (.mu true false c) => (coD c).map fun d => (d, env.set i (.sh d))
    | _ => none
section
variable {K : PySem.W.Frag} {F G H H0 Hs : Hp} {env env0 : Env} {σ σ0 : St} {F0 : Hp}
/-- the frozen part grows by one object that is no slot's any more -/
theorem Rel.frozen {a : Addr} {o : HO} (R : Rel K env F σ H) (hF : F a = none) (hH : H a = some o) (env' : Env) (hl : env'.length = env.length)
    (hs : ∀ (i : Nat) s, env'[i]? = some s → (env[i]? = some s ∧ (∀ w l c, s = .mu w l c → σ[i]? ≠ some (some (.ref a)))) ∨ SlRel K (upd F a o) H s σ[i]? ∧ ∀ w l c, s ≠ .mu w l c) : Rel K env' (upd F a o) σ H := by
  have sub : Sub F (upd F a o) := fun b u e => by
    rw [upd_ne (ne_of_none e hF)]
    exact e
  refine ⟨fun b u e => ?_, R.len.trans hl.symm, fun i s e => ?_, fun i j w l c w' l' c' b e1 e2 s1 s2 => ?_⟩
  · by_cases hb : b = a
    · subst hb
      rw [upd_same] at e
      rw [hH]
      exact e
    · rw [upd_ne hb] at e
      exact R.le b u e
  · rcases hs i s e with ⟨h1, h2⟩ | ⟨h1, _⟩
    · have z := R.sl i s h1
      cases s with
      | un => exact trivial
      | sh d =>
        obtain ⟨x, q1, q2⟩ := z
        exact ⟨x, q1, q2.mono sub⟩
      | mu w l c =>
        obtain ⟨b, u, q1, q2, q3, q4⟩ := z
        refine ⟨b, u, q1, ?_, q3, q4.mono sub⟩
        rw [upd_ne]
        · exact q2
        · rintro rfl
          exact h2 w l c rfl q1
    · exact h1
  · rcases hs i _ e1 with ⟨h1, _⟩ | ⟨_, h1⟩
    · rcases hs j _ e2 with ⟨h2, _⟩ | ⟨_, h2⟩
      · exact R.ap i j w l c w' l' c' b h1 h2 s1 s2
      · exact absurd rfl (h2 _ _ _)
    · exact absurd rfl (h1 _ _ _)
theorem frz_ok {r : Rv} {v : V} {d : D} {env' : Env} (R : Rel K env F σ H) (S : Stp env0 σ0 F0 Hs env σ F H) (V : RvRel K Hs F H env σ r v) (e : frz env r = some (d, env')) :
    ∃ F', Rel K env' F' σ H ∧ Stp env0 σ0 F0 Hs env' σ F' H ∧ Rep K F' v d ∧ Sub F F' := by
  cases r with
  | d x =>
    cases e
    exact ⟨F, R, S, V, Sub.refl⟩
  | fr c =>
    obtain ⟨a, o, rfl, h0, h1, h2, h3, h4⟩ := V
    obtain ⟨d', e1, e2⟩ := Option.map_eq_some_iff.mp e
    cases e2
    have sub : Sub F (upd F a o) := fun b u e => by
      rw [upd_ne (ne_of_none e h1)]
      exact e
    refine ⟨upd F a o, R.frozen h1 h2 env rfl fun i s q => .inl ⟨q, fun w l c z y => h4 ⟨i, w, l, c, by rw [q, z], y⟩⟩, ?_, coD_rep h3 e1 sub upd_same, sub⟩
    refine ⟨fun b hb n => ?_, S.dom, S.newL, S.newM, S.bor, S.lkd⟩
    obtain ⟨k1, k2⟩ := S.keep b hb n
    refine ⟨k1, ?_⟩
    rw [upd_ne]
    · exact k2
    · rintro rfl
      exact hb h0
  | sl i =>
    have hv : σ[i]? = some (some v) := V
    dsimp only [frz] at e
    cases q : env[i]? with
    | none => rw [q] at e; cases e
    | some s =>
      rw [q] at e
      have z := R.sl i s q
      cases s with
      | un => cases e
      | sh d' =>
        cases e
        obtain ⟨x, h1, h2⟩ := z
        rw [hv] at h1
        injection h1 with h1
        injection h1 with h1
        subst h1
        exact ⟨F, R, S, h2, Sub.refl⟩
      | mu w l c =>
        cases w with
        | false => cases e
        | true =>
          cases l with
          | true => cases e
          | false =>
            obtain ⟨d', e1, e2⟩ := Option.map_eq_some_iff.mp e
            cases e2
            obtain ⟨a, o, h1, h2, h3, h4⟩ := z
            have h1' := h1
            rw [hv] at h1
            injection h1 with h1
            injection h1 with h1
            subst h1
            have hi : i < env.length := (List.getElem?_eq_some_iff.mp q).1
            have sub : Sub F (upd F a o) := fun b u e => by
              rw [upd_ne (ne_of_none e h2)]
              exact e
            have rp : Rep K (upd F a o) (.ref a) d := coD_rep h4 e1 sub upd_same
            have hla : LA env σ a := ⟨i, true, c, q, h1'⟩
            have other : ∀ (j : Nat) s, (env.set i (.sh d))[j]? = some s → (∃ w l c, s = .mu w l c) → j ≠ i ∧ env[j]? = some s := fun j s e ⟨w, l, c, z⟩ => by
              by_cases hj : j = i
              · subst hj
                rw [List.getElem?_set_self hi] at e
                cases e
                cases z
              · rw [List.getElem?_set_ne (Ne.symm hj)] at e
                exact ⟨hj, e⟩
            refine ⟨upd F a o, R.frozen h2 h3 _ (by simp) fun j s e => ?_, ?_, rp, sub⟩
            · by_cases hj : j = i
              · subst hj
                rw [List.getElem?_set_self hi] at e
                cases e
                exact .inr ⟨⟨_, h1', rp⟩, fun _ _ _ z => by cases z⟩
              · rw [List.getElem?_set_ne (Ne.symm hj)] at e
                refine .inl ⟨e, fun w l c z y => hj ?_⟩
                subst z
                exact R.ap j i w l c true false _ a e q y h1'
            · refine ⟨fun b hb n => ?_, S.dom, fun b hb => ?_, fun b hb => ?_, fun j l c' hj => ?_, fun j w c' hj => S.lkd j w c' (other j _ hj ⟨_, _, _, rfl⟩).2⟩
              · obtain ⟨k1, k2⟩ := S.keep b hb n
                refine ⟨k1, ?_⟩
                rw [upd_ne]
                · exact k2
                · rintro rfl
                  rcases S.newL _ hla with z | z
                  · exact n z
                  · exact hb z
              · obtain ⟨j, w, c', e, y⟩ := hb
                exact S.newL b ⟨j, w, c', (other j _ e ⟨_, _, _, rfl⟩).2, y⟩
              · obtain ⟨j, w, l, c', e, y⟩ := hb
                exact S.newM b ⟨j, w, l, c', (other j _ e ⟨_, _, _, rfl⟩).2, y⟩
              · obtain ⟨k1, l2, c2, k2⟩ := S.bor j l c' hj
                refine ⟨k1, l2, c2, ?_⟩
                by_cases hji : i = j
                · subst hji
                  rw [q] at k2
                  cases k2
                · rw [List.getElem?_set_ne hji]
                  exact k2
end

/-! ### displays -/
def eSeq : List (Env → Res Rv) → Env → Res (List D)
  | [], env => .ok [] env
  | f :: fs, env => (f env).bind fun r e1 => match frz e1 r with
    | some (d, e2) => (eSeq fs e2).bind fun ds e3 => .ok (d :: ds) e3
    | none => .stuck
def eTup (fs : List (Env → Res Rv)) : Env → Res Rv := fun env => (eSeq fs env).bind fun ds e => .ok (.d (.tuple ds)) e
def eLst (fs : List (Env → Res Rv)) : Env → Res Rv := fun env => (eSeq fs env).bind fun ds e => .ok (.fr (.lst ds)) e
/-- a value made data -/
def eFrz (f : Env → Res Rv) : Env → Res Rv := fun env => (f env).bind fun r e1 => match frz e1 r with
  | some (d, e2) => .ok (.d d) e2
  | none => .stuck
def APost (K : PySem.W.Frag) (W : WX) (env : Env) (F : Hp) (σ : St) (H : Hp) (Q : List V → Hp → Prop) : Res (List D) → Prop
  | .stuck => False
  | .ok ds env' => ∀ vs F' H', Rel K env' F' σ H' → Stp env σ F H env' σ F' H' → RepL K F' vs ds → Q vs H'
  | .exc x env' => ∀ cls d F' H', Rel K env' F' σ H' → Stp env σ F H env' σ F' H' → XRel K F' x cls d → W cls d σ H'
def tA (K : PySem.W.Frag) (W : WX) (f : Env → Res (List D)) : TA := fun σ H Q => ∃ env F, Rel K env F σ H ∧ APost K W env F σ H Q (f env)
def SA (X : Cx) (W : WX) (es : List Expr) (fs : List (Env → Res Rv)) : Prop := PA X es (tA X.K W (eSeq fs))
theorem PA.imp {X : Cx} {e : List Expr} {t t' : TA} (h : PA X e t) (i : ∀ σ H Q, t' σ H Q → t σ H Q) : PA X e t' := ⟨fun pos pins s σ H Q I q => h.run pos pins s σ H Q I (i σ H Q q)⟩
theorem eSeq_length : ∀ {fs : List (Env → Res Rv)} {env e : Env} {ds : List D}, eSeq fs env = .ok ds e → ds.length = fs.length
  | [], _, _, _, h => by cases h; rfl
  | f :: fs, env, e, ds, h => by
    unfold eSeq at h
    cases h1 : f env with
    | stuck => rw [h1] at h; cases h
    | exc _ _ => rw [h1] at h; cases h
    | ok r e1 =>
      rw [h1] at h
      dsimp only [Res.bind] at h
      cases h2 : frz e1 r with
      | none => rw [h2] at h; cases h
      | some p =>
        obtain ⟨d, e2⟩ := p
        rw [h2] at h
        dsimp only at h
        cases h3 : eSeq fs e2 with
        | stuck => rw [h3] at h; cases h
        | exc _ _ => rw [h3] at h; cases h
        | ok ds' e3 =>
          rw [h3] at h
          cases h
          simp [eSeq_length h3]
section
variable {X : Cx} {W : WX} {a : Expr} {es : List Expr} {fa : Env → Res Rv} {fs : List (Env → Res Rv)} {pos : Pos}
theorem SA.nil : SA X W [] [] := by
  refine PA.imp pa_nil fun σ H Q h => ?_
  obtain ⟨env, F, R, p⟩ := h
  exact p [] F H R Stp.refl .nil
theorem SA.cons (sa : SE X W a fa) (sb : SA X W es fs) (hs : starEach (a :: es) X.env = (false, eval a X.env) :: starEach es X.env := by rfl) : SA X W (a :: es) (fa :: fs) := by
  refine PA.imp (pa_cons sa sb hs) fun σ H Q h => ?_
  obtain ⟨env, F, R, p⟩ := h
  unfold eSeq at p
  refine useE (P := APost X.K W env F σ H Q) R p (fun z => z) (fun x e z => z) fun ra e1 x F1 H1 R1 S1 V1 p1 => ?_
  cases h2 : frz e1 ra with
  | none => rw [h2] at p1; exact p1.elim
  | some q =>
    obtain ⟨d, e2⟩ := q
    rw [h2] at p1
    obtain ⟨F2, R2, S2, V2, sub⟩ := frz_ok R1 S1 V1 h2
    refine ⟨e2, F2, R2, ?_⟩
    dsimp only at p1
    cases h3 : eSeq fs e2 with
    | stuck => rw [h3] at p1; exact p1
    | exc z e3 =>
      rw [h3] at p1
      exact fun c d F' H' R' S' X' => p1 c d F' H' R' (S2.trans S') X'
    | ok ds e3 =>
      rw [h3] at p1
      exact fun vs F' H' R' S' r => p1 (x :: vs) F' H' R' (S2.trans S') (.cons (V2.mono (S'.sub R2)) r)
theorem SE.tup {x1} (h : SA X W es fs) (hl : fs.length ≤ 16777216 := by decide) : SE X W (.Tuple es x1 pos) (eTup fs) := by
  refine PE.imp (pe_tup h) fun σ H Q h => ?_
  obtain ⟨env, F, R, p⟩ := h
  refine ⟨env, F, R, ?_⟩
  unfold eTup at p
  cases h3 : eSeq fs env with
  | stuck => rw [h3] at p; exact p
  | exc z e3 => rw [h3] at p; exact p
  | ok ds e3 =>
    rw [h3] at p
    intro vs F' H' R' S' r
    exact ⟨by rw [r.length, eSeq_length h3, sizeLine_eq]; exact hl, fun q hq => EPost.tup p R' S' r q hq⟩
theorem SE.lst (h : SA X W es fs) (hl : fs.length ≤ 16777216 := by decide) : SE X W (.List es pos) (eLst fs) := by
  refine PE.imp (pe_lst h) fun σ H Q h => ?_
  obtain ⟨env, F, R, p⟩ := h
  refine ⟨env, F, R, ?_⟩
  unfold eLst at p
  cases h3 : eSeq fs env with
  | stuck => rw [h3] at p; exact p
  | exc z e3 => rw [h3] at p; exact p
  | ok ds e3 =>
    rw [h3] at p
    intro vs F' H' R' S' r
    exact ⟨by rw [r.length, eSeq_length h3, sizeLine_eq]; exact hl, fun q hq => EPost.list p R' S' r q hq⟩
theorem SE.frz (sa : SE X W a fa) : SE X W a (eFrz fa) := by
  refine PE.imp sa fun σ H Q h => ?_
  obtain ⟨env, F, R, p⟩ := h
  refine useE (P := EPost X.K W env F σ H Q) R p (fun z => z) (fun x e z => z) fun ra e1 x F1 H1 R1 S1 V1 p1 => ?_
  cases h2 : PL.frz e1 ra with
  | none => rw [h2] at p1; exact p1.elim
  | some q =>
    obtain ⟨d, e2⟩ := q
    rw [h2] at p1
    obtain ⟨F2, R2, S2, V2, _⟩ := frz_ok R1 S1 V1 h2
    exact p1 x F2 H1 R2 S2 V2
end

/-! ### calls: the arguments wait -/
def eRs : List (Env → Res Rv) → Env → Res (List Rv)
  | [], env => .ok [] env
  | f :: fs, env => (f env).bind fun r e1 => (eRs fs e1).bind fun rs e2 => .ok (r :: rs) e2
structure RsRel (K : PySem.W.Frag) (Hs F H : Hp) (env : Env) (σ : St) (rs : List Rv) (vs : List V) : Prop where
  each : ∀ (j : Nat) r v, rs[j]? = some r → vs[j]? = some v → RvRel K Hs F H env σ r v
  len : rs.length = vs.length
  apart : ∀ (i j : Nat) c c' a, rs[i]? = some (.fr c) → rs[j]? = some (.fr c') → vs[i]? = some (.ref a) → vs[j]? = some (.ref a) → i = j
def RPost (K : PySem.W.Frag) (W : WX) (env : Env) (F : Hp) (σ : St) (H : Hp) (Q : List V → Hp → Prop) : Res (List Rv) → Prop
  | .stuck => False
  | .ok rs env' => ∀ vs F' H', Rel K env' F' σ H' → Stp env σ F H env' σ F' H' → RsRel K H F' H' env' σ rs vs → Q vs H'
  | .exc x env' => ∀ cls d F' H', Rel K env' F' σ H' → Stp env σ F H env' σ F' H' → XRel K F' x cls d → W cls d σ H'
def tR (K : PySem.W.Frag) (W : WX) (f : Env → Res (List Rv)) : TA := fun σ H Q => ∃ env F, Rel K env F σ H ∧ RPost K W env F σ H Q (f env)
def SR (X : Cx) (W : WX) (es : List Expr) (fs : List (Env → Res Rv)) : Prop := PA X es (tR X.K W (eRs fs))
section
variable {X : Cx} {W : WX} {a : Expr} {es : List Expr} {fa : Env → Res Rv} {fs : List (Env → Res Rv)} {pos : Pos}
theorem SR.nil : SR X W [] [] := by
  refine PA.imp pa_nil fun σ H Q h => ?_
  obtain ⟨env, F, R, p⟩ := h
  exact p [] F H R Stp.refl ⟨fun j r v e _ => by simp at e, rfl, fun i j c c' a e => by simp at e⟩
theorem RsRel.cons {K : PySem.W.Frag} {Hs F H H1 : Hp} {env : Env} {σ : St} {r : Rv} {v : V} {rs : List Rv} {vs : List V} (h : RvRel K Hs F H env σ r v) (h1 : ∀ c a, r = .fr c → v = .ref a → H1 a ≠ none) (d : ∀ b, Hs b ≠ none → H1 b ≠ none)
    (t : RsRel K H1 F H env σ rs vs) : RsRel K Hs F H env σ (r :: rs) (v :: vs) := by
  have nw : ∀ (j : Nat) c a, rs[j]? = some (.fr c) → vs[j]? = some (.ref a) → H1 a = none := fun j c a e1 e2 => by
    obtain ⟨b, o, e, q, _⟩ := t.each j _ _ e1 e2
    cases e
    exact q
  refine ⟨fun j r' v' e1 e2 => ?_, by simp [t.len], fun i j c c' a e1 e2 s1 s2 => ?_⟩
  · cases j with
    | zero => cases e1; cases e2; exact h
    | succ j => exact (t.each j r' v' (by simpa using e1) (by simpa using e2)).older d
  · cases i with
    | zero =>
      cases j with
      | zero => rfl
      | succ j =>
        simp at e1 s1
        exact absurd (nw j _ _ (by simpa using e2) (by simpa using s2)) (h1 _ _ e1 s1)
    | succ i =>
      cases j with
      | zero =>
        simp at e2 s2
        exact absurd (nw i _ _ (by simpa using e1) (by simpa using s1)) (h1 _ _ e2 s2)
      | succ j => exact congrArg Nat.succ (t.apart i j c c' a (by simpa using e1) (by simpa using e2) (by simpa using s1) (by simpa using s2))
theorem SR.cons (sa : SE X W a fa) (sb : SR X W es fs) (hs : starEach (a :: es) X.env = (false, eval a X.env) :: starEach es X.env := by rfl) : SR X W (a :: es) (fa :: fs) := by
  refine PA.imp (pa_cons sa sb hs) fun σ H Q h => ?_
  obtain ⟨env, F, R, p⟩ := h
  unfold eRs at p
  refine useE (P := RPost X.K W env F σ H Q) R p (fun z => z) (fun x e z => z) fun ra e1 x F1 H1 R1 S1 V1 p1 => ?_
  refine ⟨e1, F1, R1, ?_⟩
  cases h3 : eRs fs e1 with
  | stuck => rw [h3] at p1; exact p1
  | exc z e3 =>
    rw [h3] at p1
    exact fun c d F' H' R' S' X' => p1 c d F' H' R' (S1.trans S') X'
  | ok ds e3 =>
    rw [h3] at p1
    refine fun vs F' H' R' S' r => p1 (x :: vs) F' H' R' (S1.trans S') (RsRel.cons (V1.wait R1 S') (fun c a er ev => ?_) S1.dom r)
    subst er
    obtain ⟨b, o, e, q0, q1, q2, _⟩ := V1
    rw [ev] at e
    cases e
    rw [q2]
    simp
end
/-- what a def gives -/
inductive FRes where
  | stuck
  | ok (r : Rv) (ps : List Sl)
  | exc (x : Exc) (ps : List Sl)
/-- an argument as a parameter: an object of a slot is lent -/
def par (env : Env) : Rv → Option Sl
  | .d x => some (.sh x)
  | .fr c => some (.mu true false c)
  | .sl i => match env[i]? with
    | some (.sh d) => some (.sh d)
    | some (.mu _ l c) => some (.mu false l c)
    | _ => none
def pars (env : Env) : List Rv → Option (List Sl)
  | [] => some []
  | r :: rs => (par env r).bind fun s => (pars env rs).map fun ss => s :: ss
/-- the slots that are lent -/
def lent (env : Env) : List Rv → List Nat
  | [] => []
  | .sl i :: rs => (match env[i]? with
    | some (.mu _ _ _) => i :: lent env rs
    | _ => lent env rs)
  | _ :: rs => lent env rs
def nodupB : List Nat → Bool
  | [] => true
  | i :: is => !is.contains i && nodupB is
/-- behind the call: what was lent comes back -/
def back (env : Env) : List Rv → List Sl → Env
  | .sl i :: rs, s :: ss => (match env[i]?, s with
    | some (.mu w l _), .mu _ _ c => (back env rs ss).set i (.mu w l c)
    | _, _ => back env rs ss)
  | _ :: rs, _ :: ss => back env rs ss
  | _, _ => env
def eCallR (G : List Sl → FRes) (env : Env) (rs : List Rv) : Res Rv := match pars env rs with
  | none => .stuck
  | some ps => match nodupB (lent env rs) with
    | false => .stuck
    | true => match G ps with
      | .stuck => .stuck
      | .ok (.sl _) _ => .stuck
      | .ok r ps' => .ok r (back env rs ps')
      | .exc x ps' => .exc x (back env rs ps')
def eCall (G : List Sl → FRes) (fs : List (Env → Res Rv)) : Env → Res Rv := fun env => (eRs fs env).bind fun rs e1 => eCallR G e1 rs

/-! ### what a def promises -/
/-- the heap without the objects that are given away to the callee -/
noncomputable def hideOwn (ps : List Sl) (vs : List V) (H : Hp) : Hp := fun b => by
  classical exact if ∃ (j : Nat) (c : Co), ps[j]? = some (.mu true false c) ∧ vs[j]? = some (.ref b) then none else H b
def FPost (K : PySem.W.Frag) (ps : List Sl) (F : Hp) (vs : List V) (H : Hp) (Q : VK) (E : XK) : FRes → Prop
  | .stuck => False
  | .ok r ps' => ∀ v F' H', Rel K ps' F' (vs.map some) H' → Stp ps (vs.map some) F H ps' (vs.map some) F' H' → RvRel K (hideOwn ps vs H) F' H' ps' (vs.map some) r v → Q v H'
  | .exc x ps' => ∀ cls d F' H', Rel K ps' F' (vs.map some) H' → Stp ps (vs.map some) F H ps' (vs.map some) F' H' → XRel K F' x cls d → E cls d H'
def spP (K : PySem.W.Frag) (n : Nat) (G : List Sl → FRes) : Sp := fun vs H Q E => ∃ ps F, ps.length = n ∧ Rel K ps F (vs.map some) H ∧ FPost K ps F vs H Q E (G ps)
end PL

set_option Elab.async false
set_option linter.all false
set_option maxRecDepth 100000
set_option maxHeartbeats 2000000
namespace PL
open PySem PySem.Spec PyProof.Rows L2

section
variable {env : Env}
theorem pars_len : ∀ {rs : List Rv} {ps : List Sl}, pars env rs = some ps → ps.length = rs.length
  | [], ps, h => by cases h; rfl
  | r :: rs, ps, h => by
    unfold pars at h
    obtain ⟨s, h1, h2⟩ := Option.bind_eq_some_iff.mp h
    obtain ⟨ss, h3, h4⟩ := Option.map_eq_some_iff.mp h2
    subst h4
    simp [pars_len h3]
theorem pars_get : ∀ {rs : List Rv} {ps : List Sl} {j : Nat} {s : Sl}, pars env rs = some ps → ps[j]? = some s → ∃ r, rs[j]? = some r ∧ par env r = some s
  | [], ps, j, s, h, e => by cases h; simp at e
  | r :: rs, ps, j, s, h, e => by
    unfold pars at h
    obtain ⟨s', h1, h2⟩ := Option.bind_eq_some_iff.mp h
    obtain ⟨ss, h3, h4⟩ := Option.map_eq_some_iff.mp h2
    subst h4
    cases j with
    | zero => simp at e; subst e; exact ⟨r, rfl, h1⟩
    | succ j => simpa using pars_get h3 (by simpa using e)
theorem pars_at : ∀ {rs : List Rv} {ps : List Sl} {j : Nat} {r : Rv}, pars env rs = some ps → rs[j]? = some r → ∃ s, ps[j]? = some s ∧ par env r = some s
  | [], ps, j, s, h, e => by simp at e
  | r :: rs, ps, j, s, h, e => by
    unfold pars at h
    obtain ⟨s', h1, h2⟩ := Option.bind_eq_some_iff.mp h
    obtain ⟨ss, h3, h4⟩ := Option.map_eq_some_iff.mp h2
    subst h4
    cases j with
    | zero => simp at e; subst e; exact ⟨s', rfl, h1⟩
    | succ j => simpa using pars_at h3 (by simpa using e)
theorem mem_lent : ∀ {rs : List Rv} {j k : Nat} {w l : Bool} {c : Co}, rs[j]? = some (.sl k) → env[k]? = some (.mu w l c) → k ∈ lent env rs
  | [], j, k, w, l, c, h, e => by simp at h
  | r :: rs, 0, k, w, l, c, h, e => by
    simp at h
    subst h
    unfold lent
    rw [e]
    exact List.mem_cons_self
  | r :: rs, j + 1, k, w, l, c, h, e => by
    have ih := mem_lent (rs := rs) (j := j) (by simpa using h) e
    cases r with
    | d x => exact ih
    | fr c => exact ih
    | sl i =>
      unfold lent
      split
      · exact List.mem_cons_of_mem _ ih
      · exact ih
theorem lent_inj : ∀ {rs : List Rv} {i j k : Nat} {w l : Bool} {c : Co}, nodupB (lent env rs) = true → rs[i]? = some (.sl k) → rs[j]? = some (.sl k) → env[k]? = some (.mu w l c) → i = j
  | [], i, j, k, w, l, c, _, h, _, _ => by simp at h
  | r :: rs, i, j, k, w, l, c, nd, h1, h2, e => by
    have nd' : nodupB (lent env rs) = true := by
      cases r with
      | d x => exact nd
      | fr c => exact nd
      | sl m =>
        unfold lent at nd
        split at nd
        · simp only [nodupB, Bool.and_eq_true] at nd
          exact nd.2
        · exact nd
    have no : r = .sl k → k ∉ lent env rs := fun q hm => by
      subst q
      unfold lent at nd
      rw [e] at nd
      simp only [nodupB, Bool.and_eq_true, Bool.not_eq_true', List.contains_eq_mem, decide_eq_false_iff_not] at nd
      exact nd.1 hm
    cases i with
    | zero =>
      cases j with
      | zero => rfl
      | succ j =>
        simp at h1
        exact absurd (mem_lent (j := j) (by simpa using h2) e) (no h1)
    | succ i =>
      cases j with
      | zero =>
        simp at h2
        exact absurd (mem_lent (j := i) (by simpa using h1) e) (no h2)
      | succ j => exact congrArg Nat.succ (lent_inj nd' (by simpa using h1) (by simpa using h2) e)
theorem back_len : ∀ {rs : List Rv} {ss : List Sl}, (back env rs ss).length = env.length
  | [], ss => by unfold back; rfl
  | r :: rs, [] => by cases r <;> (unfold back; rfl)
  | r :: rs, s :: ss => by
    cases r with
    | d x => unfold back; exact back_len
    | fr x => unfold back; exact back_len
    | sl i =>
      unfold back
      split
      · rw [List.length_set]; exact back_len
      · exact back_len
theorem back_other {k : Nat} : ∀ {rs : List Rv} {ss : List Sl}, (∀ w l c, env[k]? ≠ some (.mu w l c)) → (back env rs ss)[k]? = env[k]?
  | [], ss, h => by unfold back; rfl
  | r :: rs, [], h => by cases r <;> (unfold back; rfl)
  | r :: rs, s :: ss, h => by
    have ih := back_other (k := k) (rs := rs) (ss := ss) h
    cases r with
    | d x => unfold back; exact ih
    | fr x => unfold back; exact ih
    | sl i =>
      unfold back
      split
      · have h1 := ‹env[i]? = some (.mu _ _ _)›
        by_cases hi : i = k
        · subst hi; exact absurd h1 (h _ _ _)
        · rw [List.getElem?_set_ne hi]; exact ih
      · exact ih
theorem back_get {k : Nat} {w l : Bool} {c : Co} : ∀ {rs : List Rv} {ss : List Sl}, env[k]? = some (.mu w l c) → ∃ c', (back env rs ss)[k]? = some (.mu w l c') ∧
    ((∃ (j : Nat) (w' l' : Bool), rs[j]? = some (.sl k) ∧ ss[j]? = some (.mu w' l' c')) ∨ (c' = c ∧ ∀ (j : Nat) w' l' c'', rs[j]? = some (.sl k) → ss[j]? ≠ some (.mu w' l' c'')))
  | [], ss, h => by unfold back; exact ⟨c, h, .inr ⟨rfl, fun j _ _ _ e => by simp at e⟩⟩
  | r :: rs, [], h => by
    refine ⟨c, by cases r <;> (unfold back; exact h), .inr ⟨rfl, fun j _ _ _ _ e => by simp at e⟩⟩
  | r :: rs, s :: ss, h => by
    obtain ⟨c1, h1, h2⟩ := back_get (rs := rs) (ss := ss) h
    have hk : k < (back env rs ss).length := (List.getElem?_eq_some_iff.mp h1).1
    have keep : (∀ i, r = .sl i → i = k → ∀ w' l' c'', s ≠ .mu w' l' c'') → (back env (r :: rs) (s :: ss))[k]? = some (.mu w l c1) → ∃ c', (back env (r :: rs) (s :: ss))[k]? = some (.mu w l c') ∧
      ((∃ (j : Nat) (w' l' : Bool), (r :: rs)[j]? = some (.sl k) ∧ (s :: ss)[j]? = some (.mu w' l' c')) ∨ (c' = c ∧ ∀ (j : Nat) w' l' c'', (r :: rs)[j]? = some (.sl k) → (s :: ss)[j]? ≠ some (.mu w' l' c''))) := fun hn q => by
      refine ⟨c1, q, ?_⟩
      rcases h2 with ⟨j, w', l', e1, e2⟩ | ⟨e1, e2⟩
      · exact .inl ⟨j + 1, w', l', by simpa using e1, by simpa using e2⟩
      · refine .inr ⟨e1, fun j w' l' c'' e3 e4 => ?_⟩
        cases j with
        | zero =>
          simp at e3 e4
          exact hn k e3 rfl _ _ _ e4
        | succ j => exact e2 j w' l' c'' (by simpa using e3) (by simpa using e4)
    cases r with
    | d x => exact keep (fun _ z => by cases z) (by unfold back; exact h1)
    | fr x => exact keep (fun _ z => by cases z) (by unfold back; exact h1)
    | sl i =>
      by_cases hi : i = k
      · subst hi
        cases s with
        | un => exact keep (fun _ _ _ _ _ _ z => by cases z) (by unfold back; rw [h]; exact h1)
        | sh d => exact keep (fun _ _ _ _ _ _ z => by cases z) (by unfold back; rw [h]; exact h1)
        | mu w2 l2 c2 =>
          refine ⟨c2, ?_, .inl ⟨0, w2, l2, rfl, rfl⟩⟩
          unfold back
          rw [h]
          exact List.getElem?_set_self hk
      · refine keep (fun _ z y => by cases z; exact absurd y hi) ?_
        unfold back
        split
        · rw [List.getElem?_set_ne hi]; exact h1
        · exact h1
end

section
variable {K : PySem.W.Frag} {F F1 H1 Hs : Hp} {env env1 : Env} {σ : St} {W : WX}
theorem hideOwn_none {ps : List Sl} {vs : List V} {H : Hp} {b : Addr} (h : hideOwn ps vs H b = none) : H b = none ∨ ∃ (j : Nat) (c : Co), ps[j]? = some (.mu true false c) ∧ vs[j]? = some (.ref b) := by
  unfold hideOwn at h
  split at h
  · rename_i q
    exact .inr q
  · exact .inl h
theorem hideOwn_eq {ps : List Sl} {vs : List V} {H : Hp} {b : Addr} (n : ¬ ∃ (j : Nat) (c : Co), ps[j]? = some (.mu true false c) ∧ vs[j]? = some (.ref b)) : hideOwn ps vs H b = H b := by
  unfold hideOwn
  rw [if_neg n]
theorem mapSome {vs : List V} {j : Nat} {x : Option V} (h : (vs.map some)[j]? = some x) : ∃ v, vs[j]? = some v ∧ x = some v := by
  rw [List.getElem?_map] at h
  obtain ⟨v, h1, h2⟩ := Option.map_eq_some_iff.mp h
  exact ⟨v, h1, h2.symm⟩
/-- THE CALL -/
theorem callR_ok {G : List Sl → FRes} {rs : List Rv} {vs : List V} {Q : VK} {n : Nat} (hn : rs.length = n) (R1 : Rel K env1 F1 σ H1) (S1 : Stp env σ F Hs env1 σ F1 H1) (RR : RsRel K Hs F1 H1 env1 σ rs vs)
    (p : EPost K W env F σ Hs Q (eCallR G env1 rs)) : spP K n G vs H1 Q (fun cls d H => W cls d σ H) := by
  unfold eCallR at p
  cases hp : pars env1 rs with
  | none => rw [hp] at p; exact p.elim
  | some ps =>
    rw [hp] at p
    dsimp only at p
    cases hnd : nodupB (lent env1 rs) with
    | false => rw [hnd] at p; exact p.elim
    | true =>
      rw [hnd] at p
      dsimp only at p
      have hl := pars_len hp
      have hv : ∀ {j : Nat} {r : Rv}, rs[j]? = some r → ∃ v, vs[j]? = some v ∧ RvRel K Hs F1 H1 env1 σ r v := fun {j r} e => by
        have hj : j < vs.length := by rw [← RR.len]; exact (List.getElem?_eq_some_iff.mp e).1
        exact ⟨vs[j], List.getElem?_eq_getElem hj, RR.each j r _ e (List.getElem?_eq_getElem hj)⟩
      -- what stands at a parameter
      have slot : ∀ {j : Nat} {s : Sl}, ps[j]? = some s → SlRel K F1 H1 s (vs.map some)[j]? := fun {j s} e => by
        obtain ⟨r, e1, e2⟩ := pars_get hp e
        obtain ⟨v, e3, e4⟩ := hv e1
        rw [List.getElem?_map, e3]
        cases r with
        | d x =>
          cases e2
          exact ⟨v, rfl, e4⟩
        | fr c =>
          cases e2
          obtain ⟨a, o, rfl, h0, h1, h2, h3, h4⟩ := e4
          exact ⟨a, o, rfl, h1, h2, h3⟩
        | sl i =>
          have e5 : σ[i]? = some (some v) := e4
          dsimp only [par] at e2
          cases q : env1[i]? with
          | none => rw [q] at e2; cases e2
          | some s' =>
            rw [q] at e2
            have z := R1.sl i s' q
            cases s' with
            | un => cases e2
            | sh d =>
              cases e2
              obtain ⟨x, h1, h2⟩ := z
              rw [e5] at h1
              exact ⟨x, h1, h2⟩
            | mu w l c =>
              cases e2
              obtain ⟨a, o, h1, h2⟩ := z
              rw [e5] at h1
              exact ⟨a, o, h1, h2⟩
      -- where a mutable parameter comes from
      have src : ∀ {j : Nat} {w l : Bool} {c : Co} {a : Addr}, ps[j]? = some (.mu w l c) → (vs.map some)[j]? = some (some (.ref a)) →
          (rs[j]? = some (.fr c) ∧ w = true ∧ l = false ∧ vs[j]? = some (.ref a) ∧ Hs a = none ∧ ¬ MA env1 σ a) ∨ ∃ i w', rs[j]? = some (.sl i) ∧ w = false ∧ env1[i]? = some (.mu w' l c) ∧ σ[i]? = some (some (.ref a)) := fun {j w l c a} e ea => by
        obtain ⟨r, e1, e2⟩ := pars_get hp e
        obtain ⟨v, e3, e4⟩ := hv e1
        obtain ⟨v', e5, e6⟩ := mapSome ea
        rw [e3] at e5
        cases e5
        cases e6
        cases r with
        | d x => cases e2
        | fr c' =>
          cases e2
          obtain ⟨b, o, h, h0, h1, h2, h3, h4⟩ := e4
          cases h
          exact .inl ⟨e1, rfl, rfl, e3, h0, h4⟩
        | sl i =>
          have e5 : σ[i]? = some (some (.ref a)) := e4
          dsimp only [par] at e2
          cases q : env1[i]? with
          | none => rw [q] at e2; cases e2
          | some s' =>
            rw [q] at e2
            cases s' with
            | un => cases e2
            | sh d => cases e2
            | mu w' l' c' =>
              cases e2
              exact .inr ⟨i, w', e1, rfl, q, e5⟩
      have RP : Rel K ps F1 (vs.map some) H1 := by
        refine ⟨R1.le, by rw [List.length_map, hl, RR.len], fun j s e => slot e, fun i j w l c w' l' c' a e1 e2 s1 s2 => ?_⟩
        rcases src e1 s1 with ⟨q1, _, _, v1, _, m1⟩ | ⟨k1, w1, q1, _, u1, t1⟩
        · rcases src e2 s2 with ⟨q2, _, _, v2, _, _⟩ | ⟨k2, w2, q2, _, u2, t2⟩
          · exact RR.apart i j _ _ a q1 q2 v1 v2
          · exact absurd ⟨k2, w2, l', c', u2, t2⟩ m1
        · rcases src e2 s2 with ⟨q2, _, _, v2, _, m2⟩ | ⟨k2, w2, q2, _, u2, t2⟩
          · exact absurd ⟨k1, w1, l, c, u1, t1⟩ m2
          · have e := R1.ap k1 k2 w1 l c w2 l' c' a u1 u2 t1 t2
            subst e
            exact lent_inj hnd q1 q2 u1
      -- behind the call
      have fin : ∀ {ps' : List Sl} {F' H' : Hp}, Rel K ps' F' (vs.map some) H' → Stp ps (vs.map some) F1 H1 ps' (vs.map some) F' H' →
          Rel K (back env1 rs ps') F' σ H' ∧ Stp env σ F Hs (back env1 rs ps') σ F' H' := fun {ps' F' H'} R' S' => by
        have sub : Sub F1 F' := S'.sub RP
        have la : ∀ {b}, LA ps (vs.map some) b → LA env1 σ b ∨ Hs b = none := fun {b} hb => by
          obtain ⟨j, w, c, e1, e2⟩ := hb
          rcases src e1 e2 with ⟨_, _, _, _, q, _⟩ | ⟨i, w', _, _, q1, q2⟩
          · exact .inr q
          · exact .inl ⟨i, w', c, q1, q2⟩
        have pos : ∀ {k : Nat} {w l : Bool} {c : Co}, (back env1 rs ps')[k]? = some (.mu w l c) → ∃ c0, env1[k]? = some (.mu w l c0) := fun {k w l c} e => by
          cases q : env1[k]? with
          | none =>
            rw [back_other (fun w l c z => by rw [q] at z; cases z), q] at e
            cases e
          | some s =>
            cases s with
            | mu w0 l0 c0 =>
              obtain ⟨c', h1, _⟩ := back_get (rs := rs) (ss := ps') q
              rw [h1] at e
              cases e
              exact ⟨c0, rfl⟩
            | un =>
              rw [back_other (fun w l c z => by rw [q] at z; cases z), q] at e
              cases e
            | sh d =>
              rw [back_other (fun w l c z => by rw [q] at z; cases z), q] at e
              cases e
        have posl : ∀ {k : Nat} {w : Bool} {c : Co}, (back env1 rs ps')[k]? = some (.mu w true c) → ∃ c0, env1[k]? = some (.mu w true c0) := fun {k w c} e => pos e
        have ma : ∀ {b}, MA (back env1 rs ps') σ b → MA env1 σ b := fun {b} ⟨k, w, l, c, e1, e2⟩ => by
          obtain ⟨c0, h⟩ := pos e1
          exact ⟨k, w, l, c0, h, e2⟩
        refine ⟨⟨R'.le, R1.len.trans back_len.symm, fun k s e => ?_, fun i j w l c w' l' c' a e1 e2 s1 s2 => ?_⟩, ⟨fun b hb nb => ?_, fun b hb => S'.dom b (S1.dom b hb), fun b hb => ?_, fun b hb => ?_, fun k l c e => ?_, fun k w c e => ?_⟩⟩
        · -- the slots
          cases q : env1[k]? with
          | none =>
            rw [back_other (fun w l c z => by rw [q] at z; cases z), q] at e
            cases e
          | some s0 =>
            have z := R1.sl k s0 q
            cases s0 with
            | un =>
              rw [back_other (fun w l c z => by rw [q] at z; cases z), q] at e
              cases e
              exact trivial
            | sh d =>
              rw [back_other (fun w l c z => by rw [q] at z; cases z), q] at e
              cases e
              obtain ⟨x, h1, h2⟩ := z
              exact ⟨x, h1, h2.mono sub⟩
            | mu w l c =>
              obtain ⟨c', h1, h2⟩ := back_get (rs := rs) (ss := ps') q
              rw [h1] at e
              cases e
              obtain ⟨a, o, z1, z2, z3, z4⟩ := z
              rcases h2 with ⟨j, w', l', g1, g2⟩ | ⟨g1, g2⟩
              · -- lent
                obtain ⟨v, g3, g4⟩ := hv g1
                have g5 : σ[k]? = some (some v) := g4
                rw [z1] at g5
                cases g5
                obtain ⟨a', o', y1, y2, y3, y4⟩ := R'.sl j _ g2
                rw [List.getElem?_map, g3] at y1
                cases y1
                exact ⟨_, o', z1, y2, y3, y4⟩
              · -- not lent: as it was
                subst g1
                have nla : ¬ LA ps (vs.map some) a := fun ⟨j, w', c', e1, e2⟩ => by
                  rcases src e1 e2 with ⟨_, _, _, _, q', m⟩ | ⟨i, w2, q1, q2, q3, q4⟩
                  · exact m ⟨k, w, l, _, q, z1⟩
                  · have ei := R1.ap i k _ _ _ _ _ _ a q3 q q4 z1
                    subst ei
                    subst q2
                    obtain ⟨_, l2, c2, q5⟩ := S'.bor j false c' e1
                    exact g2 j _ _ _ q1 q5
                obtain ⟨k1, k2⟩ := S'.keep a (by rw [z3]; simp) nla
                exact ⟨a, o, z1, k2.trans z2, k1.trans z3, z4.mono sub⟩
        · obtain ⟨c1, h1⟩ := pos e1
          obtain ⟨c2, h2⟩ := pos e2
          exact R1.ap i j w l c1 w' l' c2 a h1 h2 s1 s2
        · obtain ⟨k1, k2⟩ := S1.keep b hb nb
          have n2 : ¬ LA ps (vs.map some) b := fun z => by
            rcases la z with z | z
            · rcases S1.newL b z with z | z
              · exact nb z
              · exact hb z
            · exact hb z
          obtain ⟨k3, k4⟩ := S'.keep b (S1.dom b hb) n2
          exact ⟨k3.trans k1, k4.trans k2⟩
        · obtain ⟨k, w, c, e1, e2⟩ := hb
          obtain ⟨c0, h⟩ := pos e1
          exact S1.newL b ⟨k, w, c0, h, e2⟩
        · exact S1.newM b (ma hb)
        · obtain ⟨h1, l1, c1, h2⟩ := S1.bor k l c e
          obtain ⟨c', h3, _⟩ := back_get (rs := rs) (ss := ps') h2
          exact ⟨h1, l1, c', h3⟩
        · obtain ⟨c0, h⟩ := posl e
          exact S1.lkd k w c0 h
      have fresh : ∀ {ps' : List Sl} {b : Addr}, hideOwn ps vs H1 b = none → Hs b = none ∧ ¬ MA env1 σ b := fun {ps' b} hb => by
        rcases hideOwn_none hb with z | ⟨j, c, e1, e2⟩
        · exact ⟨Classical.byContradiction fun y => S1.dom b y z, fun m => (R1.ma_none m).2 z⟩
        · rcases src e1 (by rw [List.getElem?_map, e2]; rfl) with ⟨_, _, _, _, q, m⟩ | ⟨i, w', _, q, _, _⟩
          · exact ⟨q, m⟩
          · cases q
      refine ⟨ps, F1, hl.trans hn, RP, ?_⟩
      cases hG : G ps with
      | stuck => rw [hG] at p; exact p
      | exc x ps' =>
        rw [hG] at p
        intro cls d F' H' R' S' X'
        obtain ⟨h1, h2⟩ := fin R' S'
        exact p cls d F' H' h1 h2 X'
      | ok r ps' =>
        rw [hG] at p
        intro v F' H' R' S' V'
        obtain ⟨h1, h2⟩ := fin R' S'
        cases r with
        | sl i => exact p.elim
        | d x => exact p v F' H' h1 h2 V'
        | fr c =>
          obtain ⟨a, o, e, h3, h4, h5, h6, h7⟩ := V'
          obtain ⟨q1, q2⟩ := fresh (ps' := ps') h3
          refine p v F' H' h1 h2 ⟨a, o, e, q1, h4, h5, h6, fun ⟨k, w, l, c', e1, e2⟩ => q2 ?_⟩
          cases q : env1[k]? with
          | none =>
            rw [back_other (fun w l c z => by rw [q] at z; cases z), q] at e1
            cases e1
          | some s =>
            cases s with
            | mu w0 l0 c0 => exact ⟨k, w0, l0, c0, q, e2⟩
            | un =>
              rw [back_other (fun w l c z => by rw [q] at z; cases z), q] at e1
              cases e1
            | sh d =>
              rw [back_other (fun w l c z => by rw [q] at z; cases z), q] at e1
              cases e1
end
theorem eRs_length : ∀ {fs : List (Env → Res Rv)} {env e : Env} {ds : List Rv}, eRs fs env = .ok ds e → ds.length = fs.length
  | [], _, _, _, h => by cases h; rfl
  | f :: fs, env, e, ds, h => by
    unfold eRs at h
    cases h1 : f env with
    | stuck => rw [h1] at h; cases h
    | exc _ _ => rw [h1] at h; cases h
    | ok r e1 =>
      rw [h1] at h
      dsimp only [Res.bind] at h
      cases h3 : eRs fs e1 with
      | stuck => rw [h3] at h; cases h
      | exc _ _ => rw [h3] at h; cases h
      | ok ds' e3 =>
        rw [h3] at h
        cases h
        simp [eRs_length h3]
section
variable {X : Cx} {W : WX} {k n : Nat} {f : Addr} {fd : FuncData} {ps : List Str} {G : List Sl → FRes} {ds : List Value} {x : Str} {p pos : Pos} {e : Expr} {es : List Expr} {fs : List (Env → Res Rv)}
theorem useR {σ : St} {H : Hp} {Q : VK} (hn : fs.length = n) (h : tE X.K W (eCall G fs) σ H Q) : tR X.K W (eRs fs) σ H fun vs H1 => spP X.K n G vs H1 Q (fun cls d H => W cls d σ H) := by
  obtain ⟨env, F, R, p⟩ := h
  refine ⟨env, F, R, ?_⟩
  unfold eCall at p
  cases h3 : eRs fs env with
  | stuck => rw [h3] at p; exact p
  | exc z e3 => rw [h3] at p; exact p
  | ok rs e1 =>
    rw [h3] at p
    exact fun vs F' H' R' S' r => callR_ok ((eRs_length h3).trans hn) R' S' r p
/-- f(e, ..), a def of the text that may raise -/
theorem SE.call (F : FnOk X.prog X.w X.K X.mg X.base (L2.CX X.prog X.w) k f fd ps (spP X.K n G)) (hr : Room k X.A) (hg : Gl X x) (hm : X.mg x = some (.ref f)) (hk : PySem.W.keepIn X.K (.ref f) = true) (hb : Binds X.K fd ps []) (tk : Takes X W)
    (ha : SR X W (e :: es) fs) (hn : fs.length = n := by rfl) (hdb : (x == ("__debug__" : Str)) = false := by decide) (he : starEach (e :: es) X.env = (false, eval e X.env) :: starEach es X.env := by rfl) (hpl : (backTo pos (starEach es X.env)).any (·.1) = false := by rfl) :
    SE X W (.Call (.Name x p) (e :: es) [] pos) (eCall G fs) :=
  PE.imp (pe_callSD (E := fun σ cls d H => W cls d σ H) F hr hg hm hk hb .nil (fun σ => passAt tk σ) ha hdb he hpl) fun σ H Q h => by
    have z := useR hn h
    refine (show tR X.K W (eRs fs) σ H fun vs H1 => spP X.K n G (vs ++ []) H1 Q (fun cls d H => W cls d σ H) from ?_)
    simp only [List.append_nil]
    exact z
end
end PL

set_option Elab.async false
set_option linter.all false
set_option maxRecDepth 100000
set_option maxHeartbeats 2000000
namespace PL
open PySem PySem.Spec PyProof.Rows L2

/-! ### statements in a row -/
def sNx : Env → SRes := fun env => .nx env
def sSeq (f g : Env → SRes) : Env → SRes := fun env => match f env with
  | .nx e => g e
  | r => r
def sIf (t : Env → Res Bool) (f g : Env → SRes) : Env → SRes := fun env => match t env with
  | .ok k e => if k then f e else g e
  | .exc x e => .exc x e
  | .stuck => .stuck
def sRet (f : Env → Res Rv) : Env → SRes := fun env => match f env with
  | .ok r e => .rt r e
  | .exc x e => .exc x e
  | .stuck => .stuck
def sExp (f : Env → Res Rv) : Env → SRes := fun env => match f env with
  | .ok r e => .nx e
  | .exc x e => .exc x e
  | .stuck => .stuck
def sRetN : Env → SRes := fun env => .rt (.d .none) env
def sBk : Env → SRes := fun env => .bk env
def sCt : Env → SRes := fun env => .ct env
section
variable {K : PySem.W.Frag} {F G H H0 Hs : Hp} {env e1 : Env} {σ σ1 : St} {F1 H1 : Hp} {W : WX} {D : Ends}
theorem SPost.then {r : SRes} (p : SPost K W env F σ H D r) (S : Stp env σ F H e1 σ1 F1 H1) : SPost K W e1 F1 σ1 H1 D r := by
  cases r with
  | stuck => exact p
  | nx e2 => exact fun s F' H' R' S' => p s F' H' R' (S.trans S')
  | bk e2 => exact fun s F' H' R' S' => p s F' H' R' (S.trans S')
  | ct e2 => exact fun s F' H' R' S' => p s F' H' R' (S.trans S')
  | rt v e2 => exact fun x s F' H' R' S' V' => p x s F' H' R' (S.trans S') (V'.older S.dom)
  | exc x e2 => exact fun c d s F' H' R' S' X' => p c d s F' H' R' (S.trans S') X'
/-- an expression, then a statement's end -/
theorem useES {fa : Env → Res Rv} {k : Rv → Env → SRes} {G : V → Hp → Prop} (R : Rel K env F σ H)
    (p : SPost K W env F σ H D (match fa env with | .ok r e => k r e | .exc x e => .exc x e | .stuck => .stuck))
    (fin : ∀ ra e1 x F1 H1, Rel K e1 F1 σ H1 → Stp env σ F H e1 σ F1 H1 → RvRel K H F1 H1 e1 σ ra x → SPost K W env F σ H D (k ra e1) → G x H1) : tE K W fa σ H G := by
  refine ⟨env, F, R, ?_⟩
  cases ea : fa env with
  | stuck => rw [ea] at p; exact p
  | exc x e1 =>
    rw [ea] at p
    exact fun c d F' H' R' S' X' => p c d σ F' H' R' S' X'
  | ok ra e1 =>
    rw [ea] at p
    intro x F1 H1 R1 S1 V1
    exact fin ra e1 x F1 H1 R1 S1 V1 p
end
section
variable {X : Cx} {W : WX} {st : Stmt} {rest : List Stmt} {f g : Env → SRes} {fa : Env → Res Rv} {ta : Env → Res Bool} {e c : Expr} {a b : List Stmt} {pos : Pos}
theorem SSs.nil : SSs X W [] sNx := by
  refine PSs.imp pss_nil fun D σ H h => ?_
  obtain ⟨env, F, R, p⟩ := h
  exact p σ F H R Stp.refl
theorem SSs.one (h : SS X W st f) : SSs X W [st] f := pss_one h
theorem SSs.cons (h1 : SS X W st f) (h2 : SSs X W rest g) : SSs X W (st :: rest) (sSeq f g) := by
  refine PSs.imp (pss_cons h1 h2) fun D σ H h => ?_
  obtain ⟨env, F, R, p⟩ := h
  refine ⟨env, F, R, ?_⟩
  unfold sSeq at p
  cases ef : f env with
  | stuck => rw [ef] at p; exact p
  | bk e1 => rw [ef] at p; exact p
  | ct e1 => rw [ef] at p; exact p
  | rt r e1 => rw [ef] at p; exact p
  | exc x e1 => rw [ef] at p; exact p
  | nx e1 =>
    rw [ef] at p
    exact fun σ1 F1 H1 R1 S1 => ⟨e1, F1, R1, SPost.then p S1⟩
theorem SS.ret (h : SE X W e fa) : SS X W (.Return (some e) pos) (sRet fa) := by
  refine PS.imp (ps_ret h) fun D σ H h => ?_
  obtain ⟨env, F, R, p⟩ := h
  exact useES R p fun ra e1 x F1 H1 R1 S1 V1 p1 => p1 x σ F1 H1 R1 S1 V1
theorem SS.retN : SS X W (.Return none pos) sRetN := by
  refine PS.imp ps_retN fun D σ H h => ?_
  obtain ⟨env, F, R, p⟩ := h
  exact p .non σ F H R Stp.refl .non
theorem SS.brk : SS X W (.Break pos) sBk := by
  refine PS.imp ps_break fun D σ H h => ?_
  obtain ⟨env, F, R, p⟩ := h
  exact p σ F H R Stp.refl
theorem SS.cont : SS X W (.Continue pos) sCt := by
  refine PS.imp ps_continue fun D σ H h => ?_
  obtain ⟨env, F, R, p⟩ := h
  exact p σ F H R Stp.refl
theorem SS.pass : SS X W (.Pass pos) sNx := by
  refine PS.imp ps_pass fun D σ H h => ?_
  obtain ⟨env, F, R, p⟩ := h
  exact p σ F H R Stp.refl
theorem SS.exp (h : SE X W e fa) (hs : swapsWith e none pos.line X.env = pure false := by rfl) : SS X W (.Expr e pos) (sExp fa) := by
  refine PS.imp (ps_expr h hs) fun D σ H h => ?_
  obtain ⟨env, F, R, p⟩ := h
  exact useES R p fun ra e1 x F1 H1 R1 S1 V1 p1 => p1 σ F1 H1 R1 S1
theorem SS.ife (hc : ST X W c ta) (ha : SSs X W a f) (hb : SSs X W b g) : SS X W (.If c a b pos) (sIf ta f g) := by
  refine PS.imp (ps_if hc ha hb) fun D σ H h => ?_
  obtain ⟨env, F, R, p⟩ := h
  refine ⟨env, F, R, ?_⟩
  unfold sIf at p
  cases ef : ta env with
  | stuck => rw [ef] at p; exact p
  | exc x e1 =>
    rw [ef] at p
    exact fun c d F' H' R' S' X' => p c d σ F' H' R' S' X'
  | ok k e1 =>
    rw [ef] at p
    intro F1 H1 R1 S1
    cases k with
    | true => exact ⟨e1, F1, R1, SPost.then p S1⟩
    | false => exact ⟨e1, F1, R1, SPost.then p S1⟩
end

/-! ### names get values -/
section
variable {K : PySem.W.Frag} {F H Hs : Hp} {env env0 : Env} {σ σ0 : St} {F0 : Hp} {i : Nat} {v : V}
theorem set_sh {d : D} (R : Rel K env F σ H) (S : Stp env0 σ0 F0 Hs env σ F H) (hi : i < env.length) (hb : ∀ l c, env[i]? ≠ some (.mu false l c)) (r : Rep K F v d) :
    Rel K (env.set i (.sh d)) F (σ.set i (some v)) H ∧ Stp env0 σ0 F0 Hs (env.set i (.sh d)) (σ.set i (some v)) F H := by
  have hiσ : i < σ.length := by rw [R.len]; exact hi
  have other : ∀ (j : Nat) s, (env.set i (.sh d))[j]? = some s → (∃ w l c, s = .mu w l c) → j ≠ i ∧ env[j]? = some s := fun j s e ⟨w, l, c, z⟩ => by
    by_cases hj : j = i
    · subst hj
      rw [List.getElem?_set_self hi] at e
      cases e
      cases z
    · rw [List.getElem?_set_ne (Ne.symm hj)] at e
      exact ⟨hj, e⟩
  have oσ : ∀ (j : Nat), j ≠ i → (σ.set i (some v))[j]? = σ[j]? := fun j hj => List.getElem?_set_ne (Ne.symm hj)
  refine ⟨⟨R.le, by simp [R.len], fun j s e => ?_, fun j k w l c w' l' c' a e1 e2 s1 s2 => ?_⟩, ⟨S.keep, S.dom, fun b hb => ?_, fun b hb => ?_, fun j l c e => ?_, fun j w c e => ?_⟩⟩
  · by_cases hj : j = i
    · subst hj
      rw [List.getElem?_set_self hi] at e
      cases e
      exact ⟨v, List.getElem?_set_self hiσ, r⟩
    · rw [List.getElem?_set_ne (Ne.symm hj)] at e
      rw [oσ j hj]
      exact R.sl j s e
  · obtain ⟨n1, q1⟩ := other j _ e1 ⟨_, _, _, rfl⟩
    obtain ⟨n2, q2⟩ := other k _ e2 ⟨_, _, _, rfl⟩
    rw [oσ j n1] at s1
    rw [oσ k n2] at s2
    exact R.ap j k w l c w' l' c' a q1 q2 s1 s2
  · obtain ⟨j, w, c, e, s⟩ := hb
    obtain ⟨n, q⟩ := other j _ e ⟨_, _, _, rfl⟩
    rw [oσ j n] at s
    exact S.newL b ⟨j, w, c, q, s⟩
  · obtain ⟨j, w, l, c, e, s⟩ := hb
    obtain ⟨n, q⟩ := other j _ e ⟨_, _, _, rfl⟩
    rw [oσ j n] at s
    exact S.newM b ⟨j, w, l, c, q, s⟩
  · obtain ⟨h1, l1, c1, h2⟩ := S.bor j l c e
    have n : j ≠ i := fun z => by subst z; exact hb _ _ h2
    exact ⟨(oσ j n).trans h1, l1, c1, by rw [List.getElem?_set_ne (Ne.symm n)]; exact h2⟩
  · obtain ⟨n, q⟩ := other j _ e ⟨_, _, _, rfl⟩
    obtain ⟨h1, h2⟩ := S.lkd j w c q
    exact ⟨h1, (oσ j n).trans h2⟩
theorem set_mu {c : Co} {a : Addr} {o : HO} (R : Rel K env F σ H) (S : Stp env0 σ0 F0 Hs env σ F H) (hi : i < env.length) (hb : ∀ l c, env[i]? ≠ some (.mu false l c)) (h0 : Hs a = none) (h1 : F a = none) (h2 : H a = some o) (h3 : CRep K F o c) (h4 : ¬ MA env σ a) :
    Rel K (env.set i (.mu true false c)) F (σ.set i (some (.ref a))) H ∧ Stp env0 σ0 F0 Hs (env.set i (.mu true false c)) (σ.set i (some (.ref a))) F H := by
  have hiσ : i < σ.length := by rw [R.len]; exact hi
  have other : ∀ (j : Nat) s, (env.set i (.mu true false c))[j]? = some s → j ≠ i → env[j]? = some s := fun j s e hj => by
    rw [List.getElem?_set_ne (Ne.symm hj)] at e
    exact e
  have oσ : ∀ (j : Nat), j ≠ i → (σ.set i (some (.ref a)))[j]? = σ[j]? := fun j hj => List.getElem?_set_ne (Ne.symm hj)
  have sσ : (σ.set i (some (V.ref a)))[i]? = some (some (.ref a)) := List.getElem?_set_self hiσ
  refine ⟨⟨R.le, by simp [R.len], fun j s e => ?_, fun j k w l c1 w' l' c' b e1 e2 s1 s2 => ?_⟩, ⟨S.keep, S.dom, fun b hb => ?_, fun b hb => ?_, fun j l c e => ?_, fun j w c e => ?_⟩⟩
  · by_cases hj : j = i
    · subst hj
      rw [List.getElem?_set_self hi] at e
      cases e
      exact ⟨a, o, sσ, h1, h2, h3⟩
    · rw [oσ j hj]
      exact R.sl j s (other j s e hj)
  · by_cases hj : j = i
    · by_cases hk : k = i
      · rw [hj, hk]
      · rw [hj, sσ] at s1
        cases s1
        rw [oσ k hk] at s2
        exact absurd ⟨k, w', l', c', other k _ e2 hk, s2⟩ h4
    · rw [oσ j hj] at s1
      by_cases hk : k = i
      · rw [hk, sσ] at s2
        cases s2
        exact absurd ⟨j, w, l, c1, other j _ e1 hj, s1⟩ h4
      · rw [oσ k hk] at s2
        exact R.ap j k w l c1 w' l' c' b (other j _ e1 hj) (other k _ e2 hk) s1 s2
  · obtain ⟨j, w, c1, e, s⟩ := hb
    by_cases hj : j = i
    · rw [hj, sσ] at s
      cases s
      exact .inr h0
    · rw [oσ j hj] at s
      exact S.newL b ⟨j, w, c1, other j _ e hj, s⟩
  · obtain ⟨j, w, l, c1, e, s⟩ := hb
    by_cases hj : j = i
    · rw [hj, sσ] at s
      cases s
      exact .inr h0
    · rw [oσ j hj] at s
      exact S.newM b ⟨j, w, l, c1, other j _ e hj, s⟩
  · obtain ⟨h1, l1, c1, h2⟩ := S.bor j l c e
    have n : j ≠ i := fun z => by subst z; exact hb _ _ h2
    exact ⟨(oσ j n).trans h1, l1, c1, by rw [List.getElem?_set_ne (Ne.symm n)]; exact h2⟩
  · by_cases hj : j = i
    · subst hj
      rw [List.getElem?_set_self hi] at e
      cases e
    · obtain ⟨h1, h2⟩ := S.lkd j w c (other j _ e hj)
      exact ⟨h1, (oσ j hj).trans h2⟩
end
/-- may be stored into -/
def canSet (env : Env) (i : Nat) : Bool := match env[i]? with
  | none => false
  | some (.mu false _ _) => false
  | some _ => true
theorem canSet_ok {env : Env} {i : Nat} (h : canSet env i = true) : i < env.length ∧ ∀ l c, env[i]? ≠ some (.mu false l c) := by
  unfold canSet at h
  cases q : env[i]? with
  | none => rw [q] at h; cases h
  | some s =>
    refine ⟨(List.getElem?_eq_some_iff.mp q).1, fun l c z => ?_⟩
    rw [q] at h
    cases z
    cases h
def asgn (env : Env) (i : Nat) (r : Rv) : Option Env := match r with
  | .fr c => if canSet env i then some (env.set i (.mu true false c)) else none
  | r => match frz env r with
    | some (d, e') => if canSet e' i then some (e'.set i (.sh d)) else none
    | none => none
theorem asgn_ok {K : PySem.W.Frag} {F H Hs : Hp} {env env0 env' : Env} {σ σ0 : St} {F0 : Hp} {i : Nat} {v : V} {r : Rv} (R : Rel K env F σ H) (S : Stp env0 σ0 F0 Hs env σ F H) (V : RvRel K Hs F H env σ r v) (e : asgn env i r = some env') :
    ∃ F', Rel K env' F' (σ.set i (some v)) H ∧ Stp env0 σ0 F0 Hs env' (σ.set i (some v)) F' H ∧ Sub F F' ∧ ((∃ c, r = .fr c) → F' = F) := by
  have go : (∀ c, r ≠ .fr c) → ∀ {d e'}, frz env r = some (d, e') → canSet e' i = true → env' = e'.set i (.sh d) → ∃ F', Rel K env' F' (σ.set i (some v)) H ∧ Stp env0 σ0 F0 Hs env' (σ.set i (some v)) F' H ∧ Sub F F' ∧ ((∃ c, r = .fr c) → F' = F) := fun n d e' h1 h2 h3 => by
    obtain ⟨F', R', S', r', s'⟩ := frz_ok R S V h1
    obtain ⟨c1, c2⟩ := canSet_ok h2
    obtain ⟨a, b⟩ := set_sh R' S' c1 c2 r'
    exact ⟨F', by rw [h3]; exact a, by rw [h3]; exact b, s', fun ⟨c, z⟩ => absurd z (n c)⟩
  cases r with
  | fr c =>
    dsimp only [asgn] at e
    split at e
    · rename_i hc
      cases e
      obtain ⟨c1, c2⟩ := canSet_ok hc
      obtain ⟨a, o, rfl, h0, h1, h2, h3, h4⟩ := V
      obtain ⟨x, y⟩ := set_mu R S c1 c2 h0 h1 h2 h3 h4
      exact ⟨F, x, y, Sub.refl, fun _ => rfl⟩
    · cases e
  | d x =>
    dsimp only [asgn, frz] at e
    split at e
    · rename_i hc
      cases e
      exact go (fun _ z => by cases z) rfl hc rfl
    · cases e
  | sl j =>
    dsimp only [asgn] at e
    cases q : frz env (.sl j) with
    | none => rw [q] at e; cases e
    | some p =>
      obtain ⟨d, e'⟩ := p
      rw [q] at e
      dsimp only at e
      split at e
      · rename_i hc
        cases e
        exact go (fun _ z => by cases z) q hc rfl
      · cases e
/-- name = e -/
def sSet (i : Nat) (f : Env → Res Rv) : Env → SRes := fun env => match f env with
  | .ok r e => (match asgn e i r with
    | some e' => .nx e'
    | none => .stuck)
  | .exc x e => .exc x e
  | .stuck => .stuck
section
variable {X : Cx} {W : WX} {fa : Env → Res Rv} {e : Expr} {pos pos' : Pos}
theorem SS.set {i : Nat} {x : Str} (hN : X.N.Nodup) (hi : X.N[i]? = some x) (hx : Loc X.env.scope x) (h : SE X W e fa) (hs : swapsWith e (some (.Name x pos')) pos.line X.env = pure false := by rfl) (hf : X.fn x = true ∨ X.env.scope.names.lookup x = some .local := by first | exact .inl rfl | exact .inr rfl | assumption) :
    SS X W (.Assign [.Name x pos'] e pos) (sSet i fa) := by
  refine PS.imp (ps_set hN hi hx h hs hf) fun D σ H h => ?_
  obtain ⟨env, F, R, p⟩ := h
  refine useES R p fun ra e1 v F1 H1 R1 S1 V1 p1 => ?_
  cases q : asgn e1 i ra with
  | none => rw [q] at p1; exact p1.elim
  | some e2 =>
    rw [q] at p1
    obtain ⟨F2, R2, S2, _⟩ := asgn_ok R1 S1 V1 q
    exact p1 _ F2 H1 R2 S2
end

/-! ### targets of data -/
abbrev Tg := D → Env → Option Env
def tG (K : PySem.W.Frag) (g : Tg) (T : List Nat) : TG := fun v σ H Q => ∃ env F d, Rel K env F σ H ∧ Rep K F v d ∧ ∃ env', g d env = some env' ∧ ∀ σ' F' H', Rel K env' F' σ' H' → Stp env σ F H env' σ' F' H' → σ'.length = σ.length → (∀ j : Nat, j ∉ T → σ'[j]? = σ[j]?) → Q σ' H'
/-- T: the slots that are stored into -/
def SG (X : Cx) (tg : Expr) (g : Tg) (T : List Nat) : Prop := PG X tg (tG X.K g T)
def tGs (K : PySem.W.Frag) (g : List D → Env → Option Env) (T : List Nat) : TGs := fun vs σ H Q => ∃ env F ds, Rel K env F σ H ∧ RepL K F vs ds ∧ ∃ env', g ds env = some env' ∧ ∀ σ' F' H', Rel K env' F' σ' H' → Stp env σ F H env' σ' F' H' → σ'.length = σ.length → (∀ j : Nat, j ∉ T → σ'[j]? = σ[j]?) → Q σ' H'
def SGs (X : Cx) (tg : List Expr) (g : List D → Env → Option Env) (T : List Nat) : Prop := PGs X tg (tGs X.K g T)
theorem PG.imp {X : Cx} {e : Expr} {t t' : TG} (h : PG X e t) (i : ∀ v σ H Q, t' v σ H Q → t v σ H Q) : PG X e t' := ⟨fun pins s σ H v u Q I r q => h.run pins s σ H v u Q I r (i v σ H Q q)⟩
theorem PGs.imp {X : Cx} {e : List Expr} {t t' : TGs} (h : PGs X e t) (i : ∀ v σ H Q, t' v σ H Q → t v σ H Q) : PGs X e t' := ⟨fun pins s σ H v u Q I r q => h.run pins s σ H v u Q I r (i v σ H Q q)⟩
def gN (i : Nat) : Tg := fun d env => asgn env i (.d d)
def gsN : List D → Env → Option Env := fun ds env => match ds with
  | [] => some env
  | _ => none
def gsC (g : Tg) (gs : List D → Env → Option Env) : List D → Env → Option Env := fun ds env => match ds with
  | d :: ds => (g d env).bind fun e => gs ds e
  | [] => none
def gT (n : Nat) (gs : List D → Env → Option Env) : Tg := fun d env => match d with
  | .tuple ds => if ds.length = n then gs ds env else none
  | _ => none
section
variable {X : Cx} {e : Expr} {es : List Expr} {g : Tg} {gs : List D → Env → Option Env} {T T' : List Nat} {pos : Pos}
theorem SG.name {i : Nat} {x : Str} (hN : X.N.Nodup) (hi : X.N[i]? = some x) (hx : Loc X.env.scope x) (hf : X.fn x = true ∨ X.env.scope.names.lookup x = some .local := by first | exact .inl rfl | exact .inr rfl | assumption) : SG X (.Name x pos) (gN i) [i] := by
  refine PG.imp (pg_name hN hi hx hf) fun v σ H Q h => ?_
  obtain ⟨env, F, d, R, r, env', e, q⟩ := h
  obtain ⟨F', R', S', _⟩ := asgn_ok R Stp.refl (show RvRel X.K H F H env σ (.d d) v from r) e
  exact q _ F' H R' S' (by simp) fun j hj => List.getElem?_set_ne fun z => hj (by rw [z]; exact List.mem_cons_self)
theorem SGs.nil : SGs X [] gsN [] := by
  refine PGs.imp pgs_nil fun v σ H Q h => ?_
  obtain ⟨env, F, ds, R, r, env', e, q⟩ := h
  cases ds with
  | nil =>
    cases e
    cases r
    exact ⟨rfl, q σ F H R Stp.refl rfl fun _ _ => rfl⟩
  | cons d ds => cases e
theorem SGs.cons (h1 : SG X e g T) (h2 : SGs X es gs T') (hs : (assignEach (e :: es) X.env).map (·.2) = assign e X.env :: (assignEach es X.env).map (·.2) := by rfl) : SGs X (e :: es) (gsC g gs) (T ++ T') := by
  refine PGs.imp (pgs_cons h1 h2 hs) fun v σ H Q h => ?_
  obtain ⟨env, F, ds, R, r, env', e, q⟩ := h
  cases ds with
  | nil => cases e
  | cons d ds =>
    cases r with
    | cons r1 r2 =>
      obtain ⟨e1, h3, h4⟩ := Option.bind_eq_some_iff.mp e
      exact ⟨_, _, rfl, env, F, d, R, r1, e1, h3, fun σ1 F1 H1 R1 S1 l1 k1 => ⟨e1, F1, ds, R1, r2.mono (S1.sub R), env', h4, fun σ2 F2 H2 R2 S2 l2 k2 => q σ2 F2 H2 R2 (S1.trans S2) (l2.trans l1) fun j hj => (k2 j fun z => hj (List.mem_append_right _ z)).trans (k1 j fun z => hj (List.mem_append_left _ z))⟩⟩
theorem SG.tup {k n : Nat} (hc : X.calm = true) (h : SGs X es gs T) (hn : (assignEach es X.env).length = n := by rfl) (hst : (assignEach es X.env).findIdx? (·.1) = none := by rfl) : SG X (.Tuple es k pos) (gT n gs) T := by
  refine PG.imp (pg_tup hc h hn hst) fun v σ H Q h => ?_
  obtain ⟨env, F, d, R, r, env', e, q⟩ := h
  cases d <;> first | (cases e; done) | skip
  rename_i ds
  dsimp only [gT] at e
  split at e
  · rename_i hl
    cases r with
    | tup h1 h2 => exact ⟨_, _, rfl, sqT_sub h1 R.le, h2.length.trans hl, env, F, ds, R, h2, env', e, q⟩
  · cases e
/-- (a, ..) = e -/
def sUnp (g : Tg) (f : Env → Res Rv) : Env → SRes := fun env => match f env with
  | .ok r e => (match (frz e r).bind fun p => g p.1 p.2 with
    | some e' => .nx e'
    | none => .stuck)
  | .exc x e => .exc x e
  | .stuck => .stuck
theorem SS.unp {tg v : Expr} {W : WX} {fa : Env → Res Rv} (he : SE X W v fa) (hg : SG X tg g T) (hs : swapsWithSole [tg] v pos.line X.env = pure false := by rfl) (hw : swappedStores [tg] v X.env = pure none := by rfl)
    (h1 : (assignEach [tg] X.env).map (·.2) = [assign tg X.env] := by rfl) : SS X W (.Assign [tg] v pos) (sUnp g fa) := by
  refine PS.imp (ps_asg he hg hs hw h1) fun D σ H h => ?_
  obtain ⟨env, F, R, p⟩ := h
  refine useES R p fun ra e1 v F1 H1 R1 S1 V1 p1 => ?_
  cases q : frz e1 ra with
  | none => rw [q] at p1; exact p1.elim
  | some z =>
    obtain ⟨d, e2⟩ := z
    rw [q] at p1
    cases q2 : g d e2 with
    | none =>
      have p2 : SPost X.K W env F σ H D (match g d e2 with | some e' => .nx e' | none => .stuck) := p1
      rw [q2] at p2
      exact p2.elim
    | some e3 =>
      have p2 : SPost X.K W env F σ H D (match g d e2 with | some e' => .nx e' | none => .stuck) := p1
      rw [q2] at p2
      obtain ⟨F2, R2, S2, V2, _⟩ := frz_ok R1 S1 V1 q
      exact ⟨e2, F2, d, R2, V2, e3, q2, fun σ3 F3 H3 R3 S3 _ _ => p2 σ3 F3 H3 R3 (S2.trans S3)⟩
end
end PL

set_option Elab.async false
set_option linter.all false
set_option maxRecDepth 100000
set_option maxHeartbeats 2000000
namespace PL
open PySem PySem.Spec PyProof.Rows L2

/-! ### a slot's object changes -/
section
variable {K : PySem.W.Frag} {F H Hs : Hp} {env env0 : Env} {σ σ0 : St} {F0 : Hp} {i : Nat}
theorem mut_ok {w : Bool} {c c' : Co} {a : Addr} {o' : HO} (R : Rel K env F σ H) (S : Stp env0 σ0 F0 Hs env σ F H) (he : env[i]? = some (.mu w false c)) (hs : σ[i]? = some (some (.ref a))) (hr : CRep K F o' c') :
    Rel K (env.set i (.mu w false c')) F σ (upd H a o') ∧ Stp env0 σ0 F0 Hs (env.set i (.mu w false c')) σ F (upd H a o') := by
  have hi : i < env.length := (List.getElem?_eq_some_iff.mp he).1
  have hla : LA env σ a := ⟨i, w, c, he, hs⟩
  have hF := (R.ma_none hla.ma).1
  have back : ∀ {j : Nat} {w1 l1 : Bool} {c1 : Co}, (env.set i (.mu w false c'))[j]? = some (.mu w1 l1 c1) → ∃ c0, env[j]? = some (.mu w1 l1 c0) := fun {j w1 l1 c1} e => by
    by_cases hj : j = i
    · subst hj
      rw [List.getElem?_set_self hi] at e
      cases e
      exact ⟨c, he⟩
    · rw [List.getElem?_set_ne (Ne.symm hj)] at e
      exact ⟨c1, e⟩
  refine ⟨⟨fun b u e => ?_, by simp [R.len], fun j s e => ?_, fun j k w1 l1 c1 w2 l2 c2 b e1 e2 s1 s2 => ?_⟩, ⟨fun b hb n => ?_, fun b hb => ?_, fun b hb => ?_, fun b hb => ?_, fun j l c1 e => ?_, fun j w1 c1 e => ?_⟩⟩
  · rw [upd_ne (ne_of_none e hF)]
    exact R.le b u e
  · by_cases hj : j = i
    · subst hj
      rw [List.getElem?_set_self hi] at e
      cases e
      exact ⟨a, o', hs, hF, upd_same, hr⟩
    · rw [List.getElem?_set_ne (Ne.symm hj)] at e
      have z := R.sl j s e
      cases s with
      | un => exact trivial
      | sh d => exact z
      | mu w1 l1 c1 =>
        obtain ⟨b, u, h1, h2, h3, h4⟩ := z
        refine ⟨b, u, h1, h2, ?_, h4⟩
        rw [upd_ne]
        · exact h3
        · rintro rfl
          exact hj (R.ap j i _ _ _ _ _ _ _ e he h1 hs)
  · obtain ⟨c3, h3⟩ := back e1
    obtain ⟨c4, h4⟩ := back e2
    exact R.ap j k _ _ _ _ _ _ b h3 h4 s1 s2
  · have hba : b ≠ a := fun z => by
      subst z
      rcases S.newL _ hla with z | z
      · exact n z
      · exact hb z
    obtain ⟨k1, k2⟩ := S.keep b hb n
    exact ⟨(upd_ne hba).trans k1, k2⟩
  · by_cases hba : b = a
    · rw [hba, upd_same]
      simp
    · rw [upd_ne hba]
      exact S.dom b hb
  · obtain ⟨j, w1, c1, e, s⟩ := hb
    obtain ⟨c0, h⟩ := back e
    exact S.newL b ⟨j, w1, c0, h, s⟩
  · obtain ⟨j, w1, l1, c1, e, s⟩ := hb
    obtain ⟨c0, h⟩ := back e
    exact S.newM b ⟨j, w1, l1, c0, h, s⟩
  · obtain ⟨h1, l1, c2, h2⟩ := S.bor j l c1 e
    by_cases hj : j = i
    · subst hj
      rw [he] at h2
      cases h2
      exact ⟨h1, false, c', List.getElem?_set_self hi⟩
    · exact ⟨h1, l1, c2, by rw [List.getElem?_set_ne (Ne.symm hj)]; exact h2⟩
  · obtain ⟨c0, h⟩ := back e
    exact S.lkd j w1 c0 h
end
/-- the unlocked list at slot i -/
def lstAt (env : Env) (i : Nat) : Option (Bool × List D) := match env[i]? with
  | some (.mu w false (.lst ds)) => some (w, ds)
  | _ => none
theorem lstAt_ok {env : Env} {i : Nat} {w : Bool} {ds : List D} (h : lstAt env i = some (w, ds)) : env[i]? = some (.mu w false (.lst ds)) := by
  unfold lstAt at h
  split at h
  · rename_i q
    cases h
    exact q
  · cases h
theorem slot_list {K : PySem.W.Frag} {env : Env} {F H : Hp} {σ : St} {i : Nat} {w l : Bool} {ds : List D} {v : V} (R : Rel K env F σ H) (e : env[i]? = some (.mu w l (.lst ds))) (hs : σ[i]? = some (some v)) :
    ∃ a xs, v = .ref a ∧ H a = some (.lst xs) ∧ RepL K F xs ds ∧ F a = none := by
  obtain ⟨a, o, h1, h2, h3, h4⟩ := R.sl i _ e
  rw [hs] at h1
  cases h1
  cases h4 with
  | lst h => exact ⟨a, _, rfl, h3, h, h2⟩
/-- xs[fi] = f, xs the list at slot i -/
def sSub (i : Nat) (fi f : Env → Res Rv) : Env → SRes := fun env => match f env with
  | .ok r e1 => (match frz e1 r with
    | some (d, e2) => (match lstAt e2 i with
      | none => .stuck
      | some _ => (match fi e2 with
        | .ok ri e3 => (match peek e3 ri, lstAt e3 i with
          | some (.int k), some (w, ds) => (match ixN ds.length k with
            | some j => .nx (e3.set i (.mu w false (.lst (ds.set j d))))
            | none => .stuck)
          | _, _ => .stuck)
        | .exc x e => .exc x e
        | .stuck => .stuck))
    | none => .stuck)
  | .exc x e => .exc x e
  | .stuck => .stuck
/-- a name's value at once -/
theorem tVar_of {K : PySem.W.Frag} {W : WX} {env : Env} {F H : Hp} {σ : St} {i : Nat} {G : V → Hp → Prop} {w l : Bool} {c : Co} (R : Rel K env F σ H) (e : env[i]? = some (.mu w l c))
    (h : ∀ a F' H', Rel K env F' σ H' → Stp env σ F H env σ F' H' → σ[i]? = some (some (.ref a)) → G (.ref a) H') : tE K W (eVar i) σ H G := by
  refine ⟨env, F, R, ?_⟩
  unfold eVar
  rw [e]
  intro v F' H' R' S' V'
  have V2 : σ[i]? = some (some v) := V'
  obtain ⟨a, o, h1, _⟩ := R.sl i _ e
  rw [V2] at h1
  cases h1
  exact h a F' H' R' S' V2
section
variable {X : Cx} {W : WX} {fa fi : Env → Res Rv} {e o ie : Expr} {pos p2 : Pos}
theorem SS.sub {i : Nat} (hv : SE X W o (eVar i)) (hi : SE X W ie fi) (he : SE X W e fa) (hs : swapsWithSole [.Subscript o ie p2] e pos.line X.env = pure false := by rfl) (hw : swappedStores [.Subscript o ie p2] e X.env = pure none := by rfl)
    (h1 : (assignEach [.Subscript o ie p2] X.env).map (·.2) = [assign (.Subscript o ie p2) X.env] := by rfl)
    (ha : ∀ v, assign (.Subscript o ie p2) X.env v = (do
      let ov ← holding [v] (eval o X.env)
      let iv ← holding [v, ov] (eval ie X.env)
      standAt p2
      holding [v, ov, iv] (setItem ov iv v)
      release [v, ov, iv] []) := by intro _; rfl) : SS X W (.Assign [.Subscript o ie p2] e pos) (sSub i fi fa) := by
  refine PS.imp (ps_asg he (pg_sub hv hi set_list ha) hs hw h1) fun D σ H h => ?_
  obtain ⟨env, F, R, p⟩ := h
  refine useES R p fun ra e1 v F1 H1 R1 S1 V1 p1 => ?_
  cases q1 : frz e1 ra with
  | none => rw [q1] at p1; exact p1.elim
  | some z =>
    obtain ⟨d, e2⟩ := z
    rw [q1] at p1
    obtain ⟨F2, R2, S2, V2, _⟩ := frz_ok R1 S1 V1 q1
    dsimp only at p1
    cases q2 : lstAt e2 i with
    | none => rw [q2] at p1; exact p1.elim
    | some z2 =>
      obtain ⟨w2, ds2⟩ := z2
      rw [q2] at p1
      dsimp only at p1
      refine tVar_of R2 (lstAt_ok q2) fun a F3 H3 R3 S3 hsl => ?_
      refine ⟨e2, F3, R3, ?_⟩
      cases q3 : fi e2 with
      | stuck => rw [q3] at p1; exact p1
      | exc x e3 =>
        rw [q3] at p1
        exact fun c d F' H' R' S' X' => p1 c d σ F' H' R' (S2.trans (S3.trans S')) X'
      | ok ri e3 =>
        rw [q3] at p1
        intro iv F4 H4 R4 S4 V4
        dsimp only at p1
        cases q4 : peek e3 ri with
        | none => rw [q4] at p1; exact p1.elim
        | some dk =>
          rw [q4] at p1
          cases dk <;> first | exact p1.elim | skip
          rename_i k
          cases q5 : lstAt e3 i with
          | none => rw [q5] at p1; exact p1.elim
          | some z3 =>
            obtain ⟨w, ds⟩ := z3
            rw [q5] at p1
            dsimp only at p1
            cases q6 : ixN ds.length k with
            | none => rw [q6] at p1; exact p1.elim
            | some j =>
              rw [q6] at p1
              have e5 := lstAt_ok q5
              obtain ⟨a', xs, g1, g2, g3, g4⟩ := slot_list R4 e5 hsl
              cases g1
              have S24 := S2.trans (S3.trans S4)
              have rv : Rep X.K F4 v d := (V2.mono (S3.sub R2)).mono (S4.sub R3)
              obtain ⟨R5, S5⟩ := mut_ok (o' := .lst (xs.set j v)) R4 S24 e5 hsl (.lst (g3.set j rv))
              exact ⟨a, xs, k, j, rfl, rep_int (peek_rep R4 V4 q4), g2, by rw [g3.length]; exact q6, p1 σ F4 _ R5 S5⟩
end

/-! ### a list's methods -/
/-- xs.append(f) -/
def eApp (i : Nat) (f : Env → Res Rv) : Env → Res Rv := fun env => match lstAt env i with
  | none => .stuck
  | some _ => (f env).bind fun r e1 => match frz e1 r with
    | some (d, e2) => (match lstAt e2 i with
      | some (w, ds) => if ds.length < 16777216 then .ok (.d .none) (e2.set i (.mu w false (.lst (ds ++ [d])))) else .stuck
      | none => .stuck)
    | none => .stuck
/-- xs.extend(f) -/
def eExt (i : Nat) (f : Env → Res Rv) : Env → Res Rv := fun env => match lstAt env i with
  | none => .stuck
  | some _ => (f env).bind fun r e1 => match frz e1 r with
    | some (.list es, e2) => (match lstAt e2 i with
      | some (w, ds) => if ds.length + es.length ≤ 16777216 then .ok (.d .none) (e2.set i (.mu w false (.lst (ds ++ es)))) else .stuck
      | none => .stuck)
    | _ => .stuck
/-- xs.pop() -/
def ePop (i : Nat) : Env → Res Rv := fun env => match lstAt env i with
  | some (w, ds) => (match ds[ds.length - 1]? with
    | some d => .ok (.d d) (env.set i (.mu w false (.lst ds.dropLast)))
    | none => .stuck)
  | none => .stuck
/-- xs.pop(f) -/
def ePopAt (i : Nat) (f : Env → Res Rv) : Env → Res Rv := fun env => match lstAt env i with
  | none => .stuck
  | some _ => (f env).bind fun r e1 => match peek e1 r, lstAt e1 i with
    | some (.int k), some (w, ds) => (match ixN ds.length k with
      | some j => (match ds[j]? with
        | some d => if ds.length < 9223372036854775807 then .ok (.d d) (e1.set i (.mu w false (.lst (ds.eraseIdx j)))) else .stuck
        | none => .stuck)
      | none => .stuck)
    | _, _ => .stuck
section
variable {X : Cx} {W : WX} {fa : Env → Res Rv} {e o : Expr} {cpos apos : Pos} {i : Nat}
theorem RepL.dropLast {K : PySem.W.Frag} {F : Hp} {xs : List V} {ds : List D} (h : RepL K F xs ds) : RepL K F xs.dropLast ds.dropLast := by
  rw [List.dropLast_eq_take, List.dropLast_eq_take, h.length]
  exact h.take _
theorem SE.app (hv : SE X W o (eVar i)) (he : SE X W e fa)
    (hbase : attributeBase o "append" X.env (eval o X.env) = eval o X.env := by rfl)
    (hfew : ((backTo cpos (starEach [e] X.env)).all (fun x => !x.1) && (backToKw cpos (keywordEach [] X.env)).all (fun x => x.1.isSome)
      && decide (([e] : List Expr).length + ([] : List Keyword).length + (if ([] : List Keyword).isEmpty then 0 else 1) < 30)) = true := by rfl)
    (hline : (apos.endLine == cpos.line) = true := by rfl) (hs : starEach [e] X.env = (false, eval e X.env) :: starEach [] X.env := by rfl) (hplain : (backTo cpos (starEach [] X.env)).any (·.1) = false := by rfl) :
    SE X W (.Call (.Attribute o "append" apos) [e] [] cpos) (eApp i fa) := by
  refine PE.imp (pe_bm PySem.F.plainAttrs_list PySem.F.slot_list_append PySem.F.type_list_append mt_append hv (pa_cons he pa_nil hs) hbase hfew hline hs hplain) fun σ H Q h => ?_
  obtain ⟨env, F, R, p⟩ := h
  unfold eApp at p
  cases q1 : lstAt env i with
  | none => rw [q1] at p; exact p.elim
  | some z =>
    obtain ⟨w0, ds0⟩ := z
    rw [q1] at p
    dsimp only at p
    refine tVar_of R (lstAt_ok q1) fun a F1 H1 R1 S1 hsl => ?_
    obtain ⟨a', xs0, g1, g2, g3, g4⟩ := slot_list R1 (lstAt_ok q1) hsl
    cases g1
    refine ⟨.inl ⟨rfl, xs0, SqL.of g2⟩, ?_⟩
    refine useE (P := EPost X.K W env F σ H Q) R1 p (fun z => z) (fun x e z c d F' H' R' S' X' => z c d F' H' R' (S1.trans S') X') fun ra e1 x F2 H2 R2 S2 V2 p1 => ?_
    cases q2 : PL.frz e1 ra with
    | none => rw [q2] at p1; exact p1.elim
    | some z =>
      obtain ⟨d, e2⟩ := z
      rw [q2] at p1
      dsimp only at p1
      obtain ⟨F3, R3, S3, V3, _⟩ := frz_ok R2 (S1.trans S2) (V2.older S1.dom) q2
      cases q3 : lstAt e2 i with
      | none => rw [q3] at p1; exact p1.elim
      | some z =>
        obtain ⟨w, ds⟩ := z
        rw [q3] at p1
        dsimp only at p1
        have e5 := lstAt_ok q3
        obtain ⟨a', xs, g1, g2, g3, g4⟩ := slot_list R3 e5 hsl
        cases g1
        split at p1
        · rename_i hl
          obtain ⟨R5, S5⟩ := mut_ok (o' := .lst (xs ++ [x])) R3 S3 e5 hsl (.lst (g3.append (.cons V3 .nil)))
          refine ⟨a, xs, x, rfl, rfl, g2, by rw [g3.length, sizeLine_eq]; exact hl, ?_⟩
          exact p1 .non F3 _ R5 S5 .non
        · exact p1.elim
theorem SE.ext (hv : SE X W o (eVar i)) (he : SE X W e fa)
    (hbase : attributeBase o "extend" X.env (eval o X.env) = eval o X.env := by rfl)
    (hfew : ((backTo cpos (starEach [e] X.env)).all (fun x => !x.1) && (backToKw cpos (keywordEach [] X.env)).all (fun x => x.1.isSome)
      && decide (([e] : List Expr).length + ([] : List Keyword).length + (if ([] : List Keyword).isEmpty then 0 else 1) < 30)) = true := by rfl)
    (hline : (apos.endLine == cpos.line) = true := by rfl) (hs : starEach [e] X.env = (false, eval e X.env) :: starEach [] X.env := by rfl) (hplain : (backTo cpos (starEach [] X.env)).any (·.1) = false := by rfl) :
    SE X W (.Call (.Attribute o "extend" apos) [e] [] cpos) (eExt i fa) := by
  refine PE.imp (pe_bm PySem.F.plainAttrs_list PySem.F.slot_list_extend PySem.F.type_list_extend mt_extend hv (pa_cons he pa_nil hs) hbase hfew hline hs hplain) fun σ H Q h => ?_
  obtain ⟨env, F, R, p⟩ := h
  unfold eExt at p
  cases q1 : lstAt env i with
  | none => rw [q1] at p; exact p.elim
  | some z =>
    obtain ⟨w0, ds0⟩ := z
    rw [q1] at p
    dsimp only at p
    refine tVar_of R (lstAt_ok q1) fun a F1 H1 R1 S1 hsl => ?_
    obtain ⟨a', xs0, g1, g2, g3, g4⟩ := slot_list R1 (lstAt_ok q1) hsl
    cases g1
    refine ⟨.inl ⟨rfl, xs0, SqL.of g2⟩, ?_⟩
    refine useE (P := EPost X.K W env F σ H Q) R1 p (fun z => z) (fun x e z c d F' H' R' S' X' => z c d F' H' R' (S1.trans S') X') fun ra e1 x F2 H2 R2 S2 V2 p1 => ?_
    cases q2 : PL.frz e1 ra with
    | none => rw [q2] at p1; exact p1.elim
    | some z =>
      obtain ⟨d, e2⟩ := z
      rw [q2] at p1
      cases d <;> first | exact p1.elim | skip
      rename_i es
      dsimp only at p1
      obtain ⟨F3, R3, S3, V3, _⟩ := frz_ok R2 (S1.trans S2) (V2.older S1.dom) q2
      cases q3 : lstAt e2 i with
      | none => rw [q3] at p1; exact p1.elim
      | some z =>
        obtain ⟨w, ds⟩ := z
        rw [q3] at p1
        dsimp only at p1
        have e5 := lstAt_ok q3
        obtain ⟨a', xs, g1, g2, g3, g4⟩ := slot_list R3 e5 hsl
        cases g1
        cases V3 with
        | @lst b zs _ v1 v2 =>
          split at p1
          · rename_i hl
            obtain ⟨R5, S5⟩ := mut_ok (o' := .lst (xs ++ zs)) R3 S3 e5 hsl (.lst (g3.append v2))
            refine ⟨a, b, xs, zs, rfl, rfl, g2, R3.le _ _ v1, by rw [g3.length, v2.length, sizeLine_eq]; exact hl, ?_⟩
            exact p1 .non F3 _ R5 S5 .non
          · exact p1.elim
theorem SE.pop (hv : SE X W o (eVar i)) (hbase : attributeBase o "pop" X.env (eval o X.env) = eval o X.env := by rfl) (hline : (apos.endLine == cpos.line) = true := by rfl) :
    SE X W (.Call (.Attribute o "pop" apos) [] [] cpos) (ePop i) := by
  refine PE.imp (pe_bm0 PySem.F.plainAttrs_list PySem.F.slot_list_pop PySem.F.type_list_pop mt_pop hv hbase hline) fun σ H Q h => ?_
  obtain ⟨env, F, R, p⟩ := h
  unfold ePop at p
  cases q1 : lstAt env i with
  | none => rw [q1] at p; exact p.elim
  | some z =>
    obtain ⟨w0, ds0⟩ := z
    rw [q1] at p
    dsimp only at p
    refine tVar_of R (lstAt_ok q1) fun a F1 H1 R1 S1 hsl => ?_
    have e5 := lstAt_ok q1
    obtain ⟨a', xs, g1, g2, g3, g4⟩ := slot_list R1 e5 hsl
    cases g1
    cases q2 : ds0[ds0.length - 1]? with
    | none => rw [q2] at p; exact p.elim
    | some d =>
      rw [q2] at p
      obtain ⟨y, h1, h2⟩ := g3.get q2
      obtain ⟨R5, S5⟩ := mut_ok (o' := .lst xs.dropLast) R1 S1 e5 hsl (.lst g3.dropLast)
      refine ⟨.inl ⟨rfl, xs, SqL.of g2⟩, a, xs, y, rfl, rfl, g2, by rw [g3.length]; exact h1, ?_⟩
      exact p y F1 _ R5 S5 h2
theorem SE.popAt (hv : SE X W o (eVar i)) (he : SE X W e fa)
    (hbase : attributeBase o "pop" X.env (eval o X.env) = eval o X.env := by rfl)
    (hfew : ((backTo cpos (starEach [e] X.env)).all (fun x => !x.1) && (backToKw cpos (keywordEach [] X.env)).all (fun x => x.1.isSome)
      && decide (([e] : List Expr).length + ([] : List Keyword).length + (if ([] : List Keyword).isEmpty then 0 else 1) < 30)) = true := by rfl)
    (hline : (apos.endLine == cpos.line) = true := by rfl) (hs : starEach [e] X.env = (false, eval e X.env) :: starEach [] X.env := by rfl) (hplain : (backTo cpos (starEach [] X.env)).any (·.1) = false := by rfl) :
    SE X W (.Call (.Attribute o "pop" apos) [e] [] cpos) (ePopAt i fa) := by
  refine PE.imp (pe_bm PySem.F.plainAttrs_list PySem.F.slot_list_pop PySem.F.type_list_pop mt_popAt hv (pa_cons he pa_nil hs) hbase hfew hline hs hplain) fun σ H Q h => ?_
  obtain ⟨env, F, R, p⟩ := h
  unfold ePopAt at p
  cases q1 : lstAt env i with
  | none => rw [q1] at p; exact p.elim
  | some z =>
    obtain ⟨w0, ds0⟩ := z
    rw [q1] at p
    dsimp only at p
    refine tVar_of R (lstAt_ok q1) fun a F1 H1 R1 S1 hsl => ?_
    obtain ⟨a', xs0, g1, g2, g3, g4⟩ := slot_list R1 (lstAt_ok q1) hsl
    cases g1
    refine ⟨.inl ⟨rfl, xs0, SqL.of g2⟩, ?_⟩
    refine useE (P := EPost X.K W env F σ H Q) R1 p (fun z => z) (fun x e z c d F' H' R' S' X' => z c d F' H' R' (S1.trans S') X') fun ra e1 x F2 H2 R2 S2 V2 p1 => ?_
    cases q2 : peek e1 ra with
    | none => rw [q2] at p1; exact p1.elim
    | some d =>
      rw [q2] at p1
      cases d <;> first | exact p1.elim | skip
      rename_i k
      cases q3 : lstAt e1 i with
      | none => rw [q3] at p1; exact p1.elim
      | some z =>
        obtain ⟨w, ds⟩ := z
        rw [q3] at p1
        dsimp only at p1
        cases q4 : ixN ds.length k with
        | none => rw [q4] at p1; exact p1.elim
        | some j =>
          rw [q4] at p1
          dsimp only at p1
          cases q5 : ds[j]? with
          | none => rw [q5] at p1; exact p1.elim
          | some d =>
            rw [q5] at p1
            dsimp only at p1
            have e5 := lstAt_ok q3
            obtain ⟨a', xs, g1, g2, g3, g4⟩ := slot_list R2 e5 hsl
            cases g1
            split at p1
            · rename_i hl
              obtain ⟨y, h1, h2⟩ := g3.get q5
              obtain ⟨R5, S5⟩ := mut_ok (o' := .lst (xs.eraseIdx j)) R2 (S1.trans S2) e5 hsl (.lst (g3.eraseIdx j))
              obtain ⟨m1, m2, m3, m4⟩ := ixN_seq q4
              refine ⟨a, xs, k, j, y, rfl, by rw [rep_int (peek_rep R2 V2 q2)], g2, by omega, by omega, by rw [g3.length]; exact m1, h1, ?_⟩
              exact p1 y F2 _ R5 S5 h2
            · exact p1.elim
end
end PL

set_option Elab.async false
set_option linter.all false
set_option maxRecDepth 100000
set_option maxHeartbeats 2000000
namespace PL
open PySem PySem.Spec PyProof.Rows L2

/-! ### slots, each with the one that stood there -/
def zipE (p : Nat → Sl → Sl → Sl) : Nat → Env → Env → Env
  | k, s0 :: e0, s :: e => p k s0 s :: zipE p (k + 1) e0 e
  | k, [], s :: e => p k .un s :: zipE p (k + 1) [] e
  | _, _, [] => []
theorem zipE_len {p : Nat → Sl → Sl → Sl} : ∀ {k : Nat} {e0 e : Env}, (zipE p k e0 e).length = e.length
  | k, [], [] => rfl
  | k, _ :: _, [] => rfl
  | k, [], s :: e => by simp [zipE, zipE_len]
  | k, s0 :: e0, s :: e => by simp [zipE, zipE_len]
theorem zipE_get {p : Nat → Sl → Sl → Sl} : ∀ {k : Nat} {e0 e : Env} {i : Nat}, (zipE p k e0 e)[i]? = e[i]?.map (p (k + i) (e0[i]?.getD .un))
  | k, [], [], i => by simp [zipE]
  | k, _ :: _, [], i => by simp [zipE]
  | k, [], b :: e, 0 => by simp [zipE]
  | k, [], b :: e, i + 1 => by
    have h := zipE_get (p := p) (k := k + 1) (e0 := []) (e := e) (i := i)
    have z : k + 1 + i = k + (i + 1) := by omega
    rw [z] at h
    simpa [zipE] using h
  | k, a :: e0, b :: e, 0 => by simp [zipE]
  | k, a :: e0, b :: e, i + 1 => by
    have h := zipE_get (p := p) (k := k + 1) (e0 := e0) (e := e) (i := i)
    have z : k + 1 + i = k + (i + 1) := by omega
    rw [z] at h
    simpa [zipE] using h
def lkS : Sl → Sl
  | .mu w _ c => .mu w true c
  | s => s
def unS : Sl → Sl → Sl
  | .mu _ l _, .mu w true c => .mu w l c
  | _, s => s
/-- slots that are walked -/
def lockE (lk : List Nat) (env : Env) : Env := match lk with
  | [] => env
  | _ => zipE (fun i _ s => if lk.contains i then lkS s else s) 0 env env
def unlk (lk : List Nat) (e0 env : Env) : Env := match lk with
  | [] => env
  | _ => zipE (fun i s0 s => if lk.contains i then unS s0 s else s) 0 e0 env
section
variable {K : PySem.W.Frag} {F H F' H' H0 : Hp} {env env' : Env} {σ σ' : St} {lk : List Nat}
theorem lock_at {i : Nat} : (lockE lk env)[i]? = env[i]?.map fun s => if lk.contains i then lkS s else s := by
  unfold lockE
  split
  · simp
  · rw [zipE_get, Nat.zero_add]
theorem lock_get {i : Nat} {s : Sl} (h : (lockE lk env)[i]? = some s) : ∃ s0, env[i]? = some s0 ∧ s = if lk.contains i then lkS s0 else s0 := by
  rw [lock_at] at h
  obtain ⟨s0, h1, h2⟩ := Option.map_eq_some_iff.mp h
  exact ⟨s0, h1, h2.symm⟩
theorem lock_mu {i : Nat} {w l : Bool} {c : Co} (h : (lockE lk env)[i]? = some (.mu w l c)) : ∃ l0, env[i]? = some (.mu w l0 c) ∧ (l = if lk.contains i then true else l0) := by
  obtain ⟨s0, h1, h2⟩ := lock_get h
  by_cases q : lk.contains i = true
  · rw [if_pos q] at h2
    cases s0 with
    | un => cases h2
    | sh d => cases h2
    | mu w0 l0 c0 =>
      cases h2
      exact ⟨l0, h1, by rw [if_pos q]⟩
  · rw [if_neg q] at h2
    subst h2
    exact ⟨l, h1, by rw [if_neg q]⟩
theorem lock_to {i : Nat} {w l : Bool} {c : Co} (h : env[i]? = some (.mu w l c)) : (lockE lk env)[i]? = some (.mu w (if lk.contains i then true else l) c) := by
  rw [lock_at, h]
  by_cases q : lk.contains i = true
  · rw [if_pos q]
    simp only [Option.map_some, if_pos q]
    rfl
  · rw [if_neg q]
    simp only [Option.map_some, if_neg q]
theorem unlk_len : (unlk lk env env').length = env'.length := by
  unfold unlk
  split
  · rfl
  · exact zipE_len
theorem unlk_at {i : Nat} : (unlk lk env env')[i]? = env'[i]?.map fun s => if lk.contains i then unS (env[i]?.getD .un) s else s := by
  unfold unlk
  split
  · simp
  · rw [zipE_get, Nat.zero_add]
theorem unlk_get {i : Nat} {s : Sl} (h : (unlk lk env env')[i]? = some s) : ∃ s1, env'[i]? = some s1 ∧ s = if lk.contains i then unS (env[i]?.getD .un) s1 else s1 := by
  rw [unlk_at] at h
  obtain ⟨s0, h1, h2⟩ := Option.map_eq_some_iff.mp h
  exact ⟨s0, h1, h2.symm⟩
theorem unS_mu {s0 s1 : Sl} {w l : Bool} {c : Co} (h : Sl.mu w l c = unS s0 s1) : ∃ l1, s1 = .mu w l1 c ∧ (l = l1 ∨ l1 = true ∧ ∃ w0 c0, s0 = .mu w0 l c0) := by
  cases s1 with
  | un => cases s0 <;> cases h
  | sh d => cases s0 <;> cases h
  | mu w1 l1 c1 =>
    cases s0 with
    | un =>
      have z : Sl.mu w l c = .mu w1 l1 c1 := by cases l1 <;> exact h
      cases z
      exact ⟨_, rfl, .inl rfl⟩
    | sh d =>
      have z : Sl.mu w l c = .mu w1 l1 c1 := by cases l1 <;> exact h
      cases z
      exact ⟨_, rfl, .inl rfl⟩
    | mu w0 l0 c0 =>
      cases l1 with
      | false =>
        have z : Sl.mu w l c = .mu w1 false c1 := h
        cases z
        exact ⟨_, rfl, .inl rfl⟩
      | true =>
        have z : Sl.mu w l c = .mu w1 l0 c1 := h
        cases z
        exact ⟨_, rfl, .inr ⟨rfl, w0, c0, rfl⟩⟩
theorem unlk_mu {i : Nat} {w l : Bool} {c : Co} (h : (unlk lk env env')[i]? = some (.mu w l c)) : ∃ l1, env'[i]? = some (.mu w l1 c) ∧
    ((l = l1) ∨ (lk.contains i = true ∧ l1 = true ∧ ∃ w0 c0, env[i]? = some (.mu w0 l c0))) := by
  obtain ⟨s1, h2, h3⟩ := unlk_get h
  by_cases q : lk.contains i = true
  · rw [if_pos q] at h3
    obtain ⟨l1, h4, h5⟩ := unS_mu h3
    subst h4
    refine ⟨l1, h2, h5.imp id fun ⟨h6, w0, c0, h7⟩ => ⟨q, h6, w0, c0, ?_⟩⟩
    cases z : env[i]? with
    | none => rw [z] at h7; cases h7
    | some s => rw [z] at h7; exact congrArg some h7
  · rw [if_neg q] at h3
    subst h3
    exact ⟨_, h2, .inl rfl⟩
theorem unlk_to {i : Nat} {w l : Bool} {c : Co} (h : env'[i]? = some (.mu w l c)) : ∃ l1, (unlk lk env env')[i]? = some (.mu w l1 c) := by
  rw [unlk_at, h]
  by_cases z : lk.contains i = true
  · simp only [Option.map_some, if_pos z]
    generalize env[i]?.getD .un = s0
    cases s0 with
    | un => cases l <;> exact ⟨_, rfl⟩
    | sh d => cases l <;> exact ⟨_, rfl⟩
    | mu w0 l0 c0 => cases l <;> exact ⟨_, rfl⟩
  · simp only [Option.map_some, if_neg z]
    exact ⟨_, rfl⟩
theorem lock_ma {a : Addr} : MA (lockE lk env) σ a ↔ MA env σ a := ⟨fun ⟨i, w, l, c, e, s⟩ => let ⟨l0, h, _⟩ := lock_mu e; ⟨i, w, l0, c, h, s⟩, fun ⟨i, w, l, c, e, s⟩ => ⟨i, w, _, c, lock_to e, s⟩⟩
theorem lock_la {a : Addr} (h : LA (lockE lk env) σ a) : LA env σ a := by
  obtain ⟨i, w, c, e, s⟩ := h
  obtain ⟨l0, h1, h2⟩ := lock_mu e
  split at h2
  · cases h2
  · subst h2
    exact ⟨i, w, c, h1, s⟩
theorem unlk_ma {a : Addr} : MA (unlk lk env env') σ a ↔ MA env' σ a := ⟨fun ⟨i, w, l, c, e, s⟩ => let ⟨l0, h, _⟩ := unlk_mu e; ⟨i, w, l0, c, h, s⟩, fun ⟨i, w, l, c, e, s⟩ => let ⟨l1, h⟩ := unlk_to (env := env) (lk := lk) e; ⟨i, w, l1, c, h, s⟩⟩
theorem lockE_len : (lockE lk env).length = env.length := by
  unfold lockE
  split
  · rfl
  · exact zipE_len
theorem Rel.lock (R : Rel K env F σ H) : Rel K (lockE lk env) F σ H := by
  refine ⟨R.le, R.len.trans lockE_len.symm, fun i s e => ?_, fun i j w l c w' l' c' a e1 e2 s1 s2 => ?_⟩
  · obtain ⟨s0, h1, h2⟩ := lock_get e
    have z := R.sl i s0 h1
    subst h2
    split
    · cases s0 with
      | un => exact z
      | sh d => exact z
      | mu w l c => exact z
    · exact z
  · obtain ⟨_, h1, _⟩ := lock_mu e1
    obtain ⟨_, h2, _⟩ := lock_mu e2
    exact R.ap i j _ _ _ _ _ _ a h1 h2 s1 s2
theorem through (R : Rel K env F σ H) (R' : Rel K env' F' σ' H') (S : Stp (lockE lk env) σ F H env' σ' F' H') : Rel K (unlk lk env env') F' σ' H' ∧ Stp env σ F H (unlk lk env env') σ' F' H' := by
  refine ⟨⟨R'.le, R'.len.trans unlk_len.symm, fun i s e => ?_, fun i j w l c w' l' c' a e1 e2 s1 s2 => ?_⟩, ⟨fun b hb n => S.keep b hb fun z => n (lock_la z), S.dom, fun a h => ?_, fun a h => ?_, fun i l c e => ?_, fun i w c e => ?_⟩⟩
  · obtain ⟨s1, h2, h3⟩ := unlk_get e
    have z := R'.sl i s1 h2
    subst h3
    split
    · generalize env[i]?.getD .un = s0
      cases s1 with
      | un => cases s0 <;> exact z
      | sh d => cases s0 <;> exact z
      | mu w l c => cases s0 <;> cases l <;> exact z
    · exact z
  · obtain ⟨_, h1, _⟩ := unlk_mu e1
    obtain ⟨_, h2, _⟩ := unlk_mu e2
    exact R'.ap i j _ _ _ _ _ _ a h1 h2 s1 s2
  · obtain ⟨i, w, c, e, s⟩ := h
    obtain ⟨l1, h1, h2 | ⟨h2, h3, w0, c0, h4⟩⟩ := unlk_mu e
    · subst h2
      exact (S.newL a ⟨i, w, c, h1, s⟩).imp_left lock_la
    · subst h3
      obtain ⟨_, h5⟩ := S.lkd i w c h1
      exact .inl ⟨i, w0, c0, h4, h5.symm.trans s⟩
  · exact (S.newM a ((unlk_ma).mp h)).imp_left lock_ma.mp
  · obtain ⟨h1, l1, c1, h2⟩ := S.bor i _ c (lock_to e)
    obtain ⟨l2, h3⟩ := unlk_to (env := env) (lk := lk) h2
    exact ⟨h1, l2, _, h3⟩
  · obtain ⟨l1, h1, h2 | ⟨h2, h3, w0, c0, h4⟩⟩ := unlk_mu e
    · subst h2
      obtain ⟨⟨c1, h3⟩, h4⟩ := S.lkd i w c h1
      obtain ⟨l0, h5, h6⟩ := lock_mu h3
      by_cases q : lk.contains i = true
      · obtain ⟨s1, g2, g3⟩ := unlk_get e
        rw [h1] at g2
        cases g2
        rw [if_pos q, h5] at g3
        have g4 : Sl.mu w true c = .mu w l0 c := g3
        cases g4
        exact ⟨⟨c1, h5⟩, h4⟩
      · rw [if_neg q] at h6
        subst h6
        exact ⟨⟨c1, h5⟩, h4⟩
    · subst h3
      obtain ⟨⟨c1, h5⟩, h6⟩ := S.lkd i w c h1
      obtain ⟨l0, h7, _⟩ := lock_mu h5
      rw [h7] at h4
      cases h4
      exact ⟨⟨_, h7⟩, h6⟩
theorem RvRel.unlk {r : Rv} {v : V} (h : RvRel K H0 F H env' σ r v) : RvRel K H0 F H (PL.unlk lk env env') σ r v := by
  cases r with
  | d x => exact h
  | sl i => exact h
  | fr c =>
    obtain ⟨a, o, e, h0, h1, h2, h3, h4⟩ := h
    exact ⟨a, o, e, h0, h1, h2, h3, fun z => h4 ((unlk_ma).mp z)⟩
/-- the objects that are walked -/
def lkA (lk : List Nat) (env : Env) (σ : St) (a : Addr) : Prop := ∃ i w l c, lk.contains i = true ∧ env[i]? = some (.mu w l c) ∧ σ[i]? = some (some (.ref a))
theorem lkA_not {a : Addr} (R : Rel K env F σ H) (h : lkA lk env σ a) : H a ≠ none ∧ ¬ LA (lockE lk env) σ a := by
  obtain ⟨i, w, l, c, q, e, s⟩ := h
  refine ⟨(R.ma_none ⟨i, w, l, c, e, s⟩).2, fun ⟨j, w', c', e', s'⟩ => ?_⟩
  obtain ⟨l0, h1, h2⟩ := lock_mu e'
  have z := R.ap i j _ _ _ _ _ _ a e h1 s s'
  subst z
  rw [if_pos q] at h2
  cases h2
end
def mapE (h : Env → Env) : SRes → SRes
  | .stuck => .stuck
  | .nx e => .nx (h e)
  | .rt r e => .rt r (h e)
  | .bk e => .bk (h e)
  | .ct e => .ct (h e)
  | .exc x e => .exc x (h e)
theorem SPost.locked {K : PySem.W.Frag} {F H : Hp} {env : Env} {σ : St} {W : WX} {D : Ends} {lk : List Nat} {r : SRes} (R : Rel K env F σ H) (p : SPost K W env F σ H D (mapE (unlk lk env) r)) :
    SPost K W (lockE lk env) F σ H D r := by
  cases r with
  | stuck => exact p
  | nx e => exact fun s F' H' R' S' => let ⟨a, b⟩ := through R R' S'; p s F' H' a b
  | bk e => exact fun s F' H' R' S' => let ⟨a, b⟩ := through R R' S'; p s F' H' a b
  | ct e => exact fun s F' H' R' S' => let ⟨a, b⟩ := through R R' S'; p s F' H' a b
  | rt r e => exact fun v s F' H' R' S' V' => let ⟨a, b⟩ := through R R' S'; p v s F' H' a b (V'.unlk)
  | exc x e => exact fun c d s F' H' R' S' X' => let ⟨a, b⟩ := through R R' S'; p c d s F' H' a b X'
end PL

set_option Elab.async false
set_option linter.all false
set_option maxRecDepth 100000
set_option maxHeartbeats 2000000
namespace PL
open PySem PySem.Spec PyProof.Rows L2

/-! ### while -/
def whileL (t : Env → Res Bool) (f : Env → SRes) : Nat → Env → SRes
  | 0, _ => .stuck
  | n + 1, e => match t e with
    | .stuck => .stuck
    | .exc x e1 => .exc x e1
    | .ok false e1 => .nx e1
    | .ok true e1 => match f e1 with
      | .nx e2 => whileL t f n e2
      | .ct e2 => whileL t f n e2
      | .bk e2 => .nx e2
      | r => r
open Classical in
/-- as many turns as are needed -/
noncomputable def sWhile (t : Env → Res Bool) (f : Env → SRes) : Env → SRes := fun env => if h : ∃ n, whileL t f n env ≠ .stuck then whileL t f (choose h) env else .stuck
theorem whileL_more {t : Env → Res Bool} {f : Env → SRes} : ∀ {n : Nat} {e : Env} {k : Nat}, whileL t f n e ≠ .stuck → whileL t f (n + k) e = whileL t f n e
  | 0, e, k, h => absurd rfl h
  | n + 1, e, k, h => by
    have z : n + 1 + k = n + k + 1 := by omega
    rw [z]
    unfold whileL at h ⊢
    cases h1 : t e with
    | stuck => exact absurd (by rw [h1]) h
    | exc x e1 => rfl
    | ok b e1 =>
      rw [h1] at h
      cases b with
      | false => rfl
      | true =>
        dsimp only at h ⊢
        cases h2 : f e1 with
        | nx e2 => rw [h2] at h; exact whileL_more h
        | ct e2 => rw [h2] at h; exact whileL_more h
        | bk e2 => rfl
        | stuck => rfl
        | rt r e2 => rfl
        | exc x e2 => rfl
theorem sWhile_eq {t : Env → Res Bool} {f : Env → SRes} {n : Nat} {e : Env} {r : SRes} (h : whileL t f n e = r) (hr : r ≠ .stuck) : sWhile t f e = r := by
  have ex : ∃ n, whileL t f n e ≠ .stuck := ⟨n, by rw [h]; exact hr⟩
  unfold sWhile
  rw [dif_pos ex]
  have hm := Classical.choose_spec ex
  have h1 : whileL t f n e ≠ .stuck := by rw [h]; exact hr
  have a := whileL_more (k := Classical.choose ex) h1
  have b := whileL_more (k := n) hm
  rw [Nat.add_comm] at b
  rw [← b, a, h]
section
variable {X : Cx} {W : WX} {c : Expr} {body : List Stmt} {t : Env → Res Bool} {f : Env → SRes} {pos : Pos}
theorem SS.whl (hp : PassesOwn (model X.prog X.w) X.A X.env X.xe) (hc : ST X W c t) (hb : SSs X W body f) : SS X W (.While c body [] pos) (sWhile t f) := by
  refine PS.imp (ps_while hp hc hb) fun D σ H h => ?_
  obtain ⟨env, F, R, p⟩ := h
  unfold sWhile at p
  split at p
  · rename_i ex
    refine ⟨fun n σ H => ∃ e F, Rel X.K e F σ H ∧ SPost X.K W e F σ H D (whileL t f n e), ⟨_, env, F, R, p⟩, ?_⟩
    rintro m σ H ⟨e, F, R, p⟩
    cases m with
    | zero => exact p.elim
    | succ n =>
      unfold whileL at p
      refine ⟨e, F, R, ?_⟩
      cases h1 : t e with
      | stuck => rw [h1] at p; exact p
      | exc x e1 =>
        rw [h1] at p
        exact fun c d F' H' R' S' X' => p c d σ F' H' R' S' X'
      | ok b e1 =>
        rw [h1] at p
        intro F1 H1 R1 S1
        cases b with
        | false =>
          rw [if_neg Bool.false_ne_true]
          exact p σ F1 H1 R1 S1
        | true =>
          rw [if_pos rfl]
          refine ⟨fun σ' H' => ∃ e F, Rel X.K e F σ' H' ∧ SPost X.K W e F σ' H' D (whileL t f n e), fun σ' H' h => ⟨n, Nat.lt_succ_self _, h⟩, e1, F1, R1, ?_⟩
          dsimp only at p
          have p1 := SPost.then p S1
          cases h2 : f e1 with
          | nx e2 => rw [h2] at p1; exact fun σ2 F2 H2 R2 S2 => ⟨e2, F2, R2, SPost.then p1 S2⟩
          | ct e2 => rw [h2] at p1; exact fun σ2 F2 H2 R2 S2 => ⟨e2, F2, R2, SPost.then p1 S2⟩
          | bk e2 => rw [h2] at p1; exact p1
          | stuck => rw [h2] at p1; exact p1
          | rt r e2 => rw [h2] at p1; exact p1
          | exc x e2 => rw [h2] at p1; exact p1
  · exact p.elim
end

/-! ### what is walked -/
/-- the iterator yields the data -/
def JOk (K : PySem.W.Frag) (F1 H1 : Hp) (L : Addr → Prop) (J : It) (ds : List D) : Prop := ∀ env σ F H, Rel K env F σ H → Sub F1 F → (∀ a, L a → H a = H1 a) → ∀ i : Nat,
  (ds.length ≤ i → J.stop i H) ∧ ∀ d, ds[i]? = some d → J.go i H ∧ ∀ x H', J.yld i H x H' → ∃ F', Rel K env F' σ H' ∧ Stp env σ F H env σ F' H' ∧ Rep K F' x d
abbrev ItR := List D × List Nat
def IPost (K : PySem.W.Frag) (W : WX) (env : Env) (F : Hp) (σ : St) (H : Hp) (R : It → Hp → Prop) : Res ItR → Prop
  | .stuck => False
  | .ok (ds, lk) env' => ∀ J F' H', Rel K env' F' σ H' → Stp env σ F H env' σ F' H' → JOk K F' H' (lkA lk env' σ) J ds → R J H'
  | .exc x env' => ∀ cls d F' H', Rel K env' F' σ H' → Stp env σ F H env' σ F' H' → XRel K F' x cls d → W cls d σ H'
def tI (K : PySem.W.Frag) (W : WX) (f : Env → Res ItR) : TI := fun σ H R => ∃ env F, Rel K env F σ H ∧ IPost K W env F σ H R (f env)
def SI (X : Cx) (W : WX) (tg iter : Expr) (f : Env → Res ItR) : Prop := PI X tg iter (tI X.K W f)
theorem PI.imp {X : Cx} {tg e : Expr} {t t' : TI} (h : PI X tg e t) (i : ∀ σ H Q, t' σ H Q → t σ H Q) : PI X tg e t' := ⟨fun pins s σ H Q I q => h.run pins s σ H Q I (i σ H Q q)⟩
theorem PI.or {X : Cx} {tg e : Expr} {t t' : TI} (h : PI X tg e t) (h' : PI X tg e t') : PI X tg e (fun σ H R => t σ H R ∨ t' σ H R) := ⟨fun pins s σ H Q I q => q.elim (h.run pins s σ H Q I) (h'.run pins s σ H Q I)⟩
def itLk (env : Env) : Rv → Option (List D × Nat)
  | .sl i => (match env[i]? with
    | some (.mu _ _ (.lst ds)) => some (ds, i)
    | _ => none)
  | _ => none
def itD : D → Option (List D)
  | .list ds => some ds
  | .tuple ds => some ds
  | _ => none
def itRv (env : Env) (r : Rv) : Res ItR := match itLk env r with
  | some (ds, i) => .ok (ds, [i]) env
  | none => match frz env r with
    | some (d, e2) => (match itD d with
      | some ds => .ok (ds, []) e2
      | none => .stuck)
    | none => .stuck
def itOf (fa : Env → Res Rv) : Env → Res ItR := fun env => (fa env).bind fun r e1 => itRv e1 r
section
variable {K : PySem.W.Frag} {F H F1 H1 : Hp} {env : Env} {σ : St}
theorem itLk_ok {r : Rv} {ds : List D} {i : Nat} (h : itLk env r = some (ds, i)) : r = .sl i ∧ ∃ w l, env[i]? = some (.mu w l (.lst ds)) := by
  cases r with
  | d x => cases h
  | fr c => cases h
  | sl j =>
    dsimp only [itLk] at h
    split at h
    · rename_i h2
      cases h
      exact ⟨rfl, _, _, h2⟩
    · cases h
/-- a list that stays: it lies in the frozen part, or it is walked -/
theorem jok_list {a : Addr} {xs : List V} {ds : List D} {L : Addr → Prop} (r : RepL K F1 xs ds) (h : SqL K F1 a xs ∨ (L a ∧ SqL K H1 a xs ∧ H1 a = some (.lst xs))) : JOk K F1 H1 L (Itl K a) ds := by
  intro env σ F H R s k i
  have hq : SqL K H a xs := by
    rcases h with h | ⟨h1, h2, h3⟩
    · exact sqL_sub h (s.trans R.le)
    · exact SqL.of ((k a h1).trans h3)
  refine ⟨fun hi => ⟨xs, hq, by rw [r.length]; exact hi⟩, fun d hd => ?_⟩
  obtain ⟨x, hx, rx⟩ := r.get hd
  refine ⟨⟨xs, x, hq, hx⟩, fun y H' ⟨e, hy⟩ => ?_⟩
  subst e
  have := hy xs hq
  rw [hx] at this
  cases this
  exact ⟨F, R, Stp.refl, rx.mono s⟩
theorem jok_tup {a : Addr} {xs : List V} {ds : List D} {L : Addr → Prop} (r : RepL K F1 xs ds) (h : SqT K F1 a xs) : JOk K F1 H1 L (Itt K a) ds := by
  intro env σ F H R s k i
  have hq : SqT K H a xs := sqT_sub h (s.trans R.le)
  refine ⟨fun hi => ⟨xs, hq, by rw [r.length]; exact hi⟩, fun d hd => ?_⟩
  obtain ⟨x, hx, rx⟩ := r.get hd
  refine ⟨⟨xs, x, hq, hx⟩, fun y H' ⟨e, hy⟩ => ?_⟩
  subst e
  have := hy xs hq
  rw [hx] at this
  cases this
  exact ⟨F, R, Stp.refl, rx.mono s⟩
end
section
variable {X : Cx} {W : WX} {tg e a b : Expr} {fa fb : Env → Res Rv} {p pos : Pos}
theorem SI.of (he : SE X W e fa) : SI X W tg e (itOf fa) := by
  refine PI.imp (PI.or (pi_list (tg := tg) he) (pi_tup (tg := tg) he)) fun σ H Q h => ?_
  obtain ⟨env, F, R, p⟩ := h
  unfold itOf at p
  cases ea : fa env with
  | stuck => rw [ea] at p; exact p.elim
  | exc x e1 =>
    rw [ea] at p
    exact .inl ⟨env, F, R, by rw [ea]; exact p⟩
  | ok r e1 =>
    rw [ea] at p
    have p : IPost X.K W env F σ H Q (itRv e1 r) := p
    unfold itRv at p
    cases h1 : itLk e1 r with
    | some q =>
      obtain ⟨ds, i⟩ := q
      rw [h1] at p
      obtain ⟨rfl, w, l, h2⟩ := itLk_ok h1
      refine .inl ⟨env, F, R, ?_⟩
      rw [ea]
      intro v F1 H1 R1 S1 V1
      have hv : σ[i]? = some (some v) := V1
      obtain ⟨a, o, z1, z2, z3, z4⟩ := R1.sl i _ h2
      rw [hv] at z1
      cases z1
      cases z4 with
      | lst z4 => exact ⟨a, rfl, ⟨_, SqL.of z3⟩, p _ F1 H1 R1 S1 (jok_list z4 (.inr ⟨⟨i, w, l, _, by simp, h2, hv⟩, SqL.of z3, z3⟩))⟩
    | none =>
      rw [h1] at p
      dsimp only at p
      cases h2 : frz e1 r with
      | none => rw [h2] at p; exact p.elim
      | some q =>
        obtain ⟨d, e2⟩ := q
        rw [h2] at p
        dsimp only at p
        cases d <;> first | exact p.elim | skip
        · refine .inl ⟨env, F, R, ?_⟩
          rw [ea]
          intro v F1 H1 R1 S1 V1
          obtain ⟨F2, R2, S2, V2, _⟩ := frz_ok R1 S1 V1 h2
          cases V2 with
          | lst g1 g2 => exact ⟨_, rfl, ⟨_, SqL.of (R2.le _ _ g1)⟩, p _ F2 H1 R2 S2 (jok_list g2 (.inl (SqL.of g1)))⟩
        · refine .inr ⟨env, F, R, ?_⟩
          rw [ea]
          intro v F1 H1 R1 S1 V1
          obtain ⟨F2, R2, S2, V2, _⟩ := frz_ok R1 S1 V1 h2
          cases V2 with
          | tup g1 g2 => exact ⟨_, rfl, ⟨_, sqT_sub g1 R2.le⟩, p _ F2 H1 R2 S2 (jok_tup g2 g1)⟩
end
/-! ### range -/
def upTo (lo : Int) (n : Nat) : List D := (List.range n).map fun k => .int (lo + (k : Nat))
def smallB (i : Int) : Bool := decide (-(2 ^ 62) ≤ i) && decide (i < 2 ^ 62)
def itRng1 (fa : Env → Res Rv) : Env → Res ItR := fun env => (eSeq [fa] env).bind fun ds e1 => match ds with
  | [.int j] => if smallB j then .ok (upTo 0 j.toNat, []) e1 else .stuck
  | _ => .stuck
def itRng2 (fa fb : Env → Res Rv) : Env → Res ItR := fun env => (eSeq [fa, fb] env).bind fun ds e1 => match ds with
  | [.int i, .int j] => if smallB i && smallB j then .ok (upTo i (j - i).toNat, []) e1 else .stuck
  | _ => .stuck
def stepTo (lo c : Int) (n : Nat) : List D := (List.range n).map fun k => .int (lo + (k : Nat) * c)
/-- range(i, j, -1) -/
def itRng3 (fa fb fc : Env → Res Rv) : Env → Res ItR := fun env => (eSeq [fa, fb, fc] env).bind fun ds e1 => match ds with
  | [.int i, .int j, .int c] => if smallB i && smallB j && decide (c = -1) then .ok (stepTo i (-1) (i - j).toNat, []) e1 else .stuck
  | _ => .stuck
theorem upTo_get {lo : Int} {n i : Nat} {d : D} (h : (upTo lo n)[i]? = some d) : i < n ∧ d = .int (lo + (i : Nat)) := by
  unfold upTo at h
  rw [List.getElem?_map] at h
  obtain ⟨k, h1, h2⟩ := Option.map_eq_some_iff.mp h
  obtain ⟨h3, h4⟩ := List.getElem?_eq_some_iff.mp h1
  rw [List.getElem_range] at h4
  subst h4
  exact ⟨by simpa using h3, h2.symm⟩
theorem stepTo_get {lo c : Int} {n i : Nat} {d : D} (h : (stepTo lo c n)[i]? = some d) : i < n ∧ d = .int (lo + (i : Nat) * c) := by
  unfold stepTo at h
  rw [List.getElem?_map] at h
  obtain ⟨k, h1, h2⟩ := Option.map_eq_some_iff.mp h
  obtain ⟨h3, h4⟩ := List.getElem?_eq_some_iff.mp h1
  rw [List.getElem_range] at h4
  subst h4
  exact ⟨by simpa using h3, h2.symm⟩
theorem upTo_len {lo : Int} {n : Nat} : (upTo lo n).length = n := by simp [upTo]
theorem stepTo_len {lo c : Int} {n : Nat} : (stepTo lo c n).length = n := by simp [stepTo]
section
variable {K : PySem.W.Frag} {F1 H1 : Hp} {L : Addr → Prop}
theorem jok_rng {lo : Int} {n : Nat} : JOk K F1 H1 L (Itr lo n) (upTo lo n) := by
  intro env σ F H R s k i
  refine ⟨fun hi => by rw [upTo_len] at hi; exact hi, fun d hd => ?_⟩
  obtain ⟨h1, rfl⟩ := upTo_get hd
  refine ⟨h1, fun x H' ⟨e1, e2⟩ => ?_⟩
  subst e1
  subst e2
  exact ⟨F, R, Stp.refl, .int _⟩
theorem jok_rngC {lo c : Int} {n : Nat} : JOk K F1 H1 L (Itc lo c n) (stepTo lo c n) := by
  intro env σ F H R s k i
  refine ⟨fun hi => by rw [stepTo_len] at hi; exact hi, fun d hd => ?_⟩
  obtain ⟨h1, rfl⟩ := stepTo_get hd
  refine ⟨h1, fun x H' ⟨e1, e2⟩ => ?_⟩
  subst e1
  subst e2
  exact ⟨F, R, Stp.refl, .int _⟩
theorem smallB_ok {i : Int} (h : smallB i = true) : -(2 ^ 62) ≤ i ∧ i < 2 ^ 62 := by
  unfold smallB at h
  simpa using h
/-- arguments that are data, then anything -/
theorem useA {W : WX} {env : Env} {F H : Hp} {σ : St} {fs : List (Env → Res Rv)} {Q : It → Hp → Prop} {k : List D → Env → Res ItR} {G : List V → Hp → Prop} (R : Rel K env F σ H) (p : IPost K W env F σ H Q ((eSeq fs env).bind k))
    (fin : ∀ ds e1 vs F1 H1, Rel K e1 F1 σ H1 → Stp env σ F H e1 σ F1 H1 → RepL K F1 vs ds → IPost K W env F σ H Q (k ds e1) → G vs H1) : tA K W (eSeq fs) σ H G := by
  refine ⟨env, F, R, ?_⟩
  cases h3 : eSeq fs env with
  | stuck => rw [h3] at p; exact p
  | exc z e3 => rw [h3] at p; exact p
  | ok ds e3 =>
    rw [h3] at p
    exact fun vs F' H' R' S' r => fin ds e3 vs F' H' R' S' r p
theorem repL_int1 {F : Hp} {vs : List V} {i : Int} (h : RepL K F vs [.int i]) : vs = [.int i] := by
  cases h with
  | cons h1 h2 => cases h2; rw [rep_int h1]
theorem repL_int2 {F : Hp} {vs : List V} {i j : Int} (h : RepL K F vs [.int i, .int j]) : vs = [.int i, .int j] := by
  cases h with
  | cons h1 h2 => rw [rep_int h1, repL_int1 h2]
theorem repL_int3 {F : Hp} {vs : List V} {i j k : Int} (h : RepL K F vs [.int i, .int j, .int k]) : vs = [.int i, .int j, .int k] := by
  cases h with
  | cons h1 h2 => rw [rep_int h1, repL_int2 h2]
end
section
variable {X : Cx} {W : WX} {tg a b c : Expr} {fa fb fc : Env → Res Rv} {p pos : Pos}
theorem SI.rng1 (hg : Gl X "range") (hm : X.mg "range" = none) (ha : SE X W a fa) (hs : starEach [a] X.env = [(false, eval a X.env)] := by rfl) (hs' : starEach [a] X.env = (false, eval a X.env) :: starEach [] X.env := by rfl) : SI X W tg (.Call (.Name "range" p) [a] [] pos) (itRng1 fa) := by
  refine PI.imp (pi_range1 hg hm (SA.cons ha SA.nil hs') hs) fun σ H Q h => ?_
  obtain ⟨env, F, R, p⟩ := h
  unfold itRng1 at p
  refine useA R p fun ds e1 vs F1 H1 R1 S1 r p1 => ?_
  split at p1
  · split at p1
    · rename_i j hj
      obtain ⟨h1, h2⟩ := smallB_ok hj
      exact ⟨j, repL_int1 r, h1, h2, p1 _ F1 H1 R1 S1 jok_rng⟩
    · exact p1.elim
  · exact p1.elim
theorem SI.rng2 (hg : Gl X "range") (hm : X.mg "range" = none) (ha : SE X W a fa) (hb : SE X W b fb) (hs : starEach [a, b] X.env = [(false, eval a X.env), (false, eval b X.env)] := by rfl) (hs2 : starEach [b] X.env = [(false, eval b X.env)] := by rfl)
    (hs1 : starEach [a, b] X.env = (false, eval a X.env) :: starEach [b] X.env := by rfl) (hs3 : starEach [b] X.env = (false, eval b X.env) :: starEach [] X.env := by rfl) : SI X W tg (.Call (.Name "range" p) [a, b] [] pos) (itRng2 fa fb) := by
  refine PI.imp (pi_range2 hg hm (SA.cons ha (SA.cons hb SA.nil hs3) hs1) hs hs2) fun σ H Q h => ?_
  obtain ⟨env, F, R, p⟩ := h
  unfold itRng2 at p
  refine useA R p fun ds e1 vs F1 H1 R1 S1 r p1 => ?_
  split at p1
  · split at p1
    · rename_i i j hj
      simp only [Bool.and_eq_true] at hj
      obtain ⟨h1, h2⟩ := smallB_ok hj.1
      obtain ⟨h3, h4⟩ := smallB_ok hj.2
      exact ⟨i, j, repL_int2 r, ⟨h1, h2, h3, h4⟩, p1 _ F1 H1 R1 S1 jok_rng⟩
    · exact p1.elim
  · exact p1.elim
theorem SI.rng3 (hg : Gl X "range") (hm : X.mg "range" = none) (ha : SE X W a fa) (hb : SE X W b fb) (hc : SE X W c fc) (hs : starEach [a, b, c] X.env = (false, eval a X.env) :: starEach [b, c] X.env := by rfl) (hs2 : starEach [b, c] X.env = (false, eval b X.env) :: starEach [c] X.env := by rfl)
    (hs3 : starEach [c] X.env = (false, eval c X.env) :: starEach [] X.env := by rfl) (hpl : (backTo pos (starEach [b, c] X.env)).any (·.1) = false := by rfl) :
    SI X W tg (.Call (.Name "range" p) [a, b, c] [] pos) (itRng3 fa fb fc) := by
  refine PI.imp (pi_range3 hg hm (SA.cons ha (SA.cons hb (SA.cons hc SA.nil hs3) hs2) hs) hs hpl) fun σ H Q h => ?_
  obtain ⟨env, F, R, p⟩ := h
  unfold itRng3 at p
  refine useA R p fun ds e1 vs F1 H1 R1 S1 r p1 => ?_
  split at p1
  · split at p1
    · rename_i i j c hj
      simp only [Bool.and_eq_true, decide_eq_true_eq] at hj
      obtain ⟨⟨hj1, hj2⟩, rfl⟩ := hj
      obtain ⟨h1, h2⟩ := smallB_ok hj1
      obtain ⟨h3, h4⟩ := smallB_ok hj2
      exact ⟨i, j, -1, _, repL_int3 r, RgC.neg h1 h2 h3 h4, p1 _ F1 H1 R1 S1 jok_rngC⟩
    · exact p1.elim
  · exact p1.elim
end

/-! ### for -/
def forL (g : Tg) (f : Env → SRes) : List D → Env → SRes
  | [], e => .nx e
  | x :: xs, e => match g x e with
    | none => .stuck
    | some e1 => match f e1 with
      | .nx e2 => forL g f xs e2
      | .ct e2 => forL g f xs e2
      | .bk e2 => .nx e2
      | r => r
def sFor (it : Env → Res ItR) (g : Tg) (f : Env → SRes) : Env → SRes := fun env => match it env with
  | .ok (xs, lk) e1 => mapE (unlk lk e1) (forL g f xs (lockE lk e1))
  | .exc x e => .exc x e
  | .stuck => .stuck
section
variable {X : Cx} {W : WX} {iter tg : Expr} {body : List Stmt} {it : Env → Res ItR} {g : Tg} {T : List Nat} {f : Env → SRes} {pos : Pos}
theorem SS.for (hp : PassesOwn (model X.prog X.w) X.A X.env X.xe) (hc : X.calm = true) (hi : SI X W tg iter it) (hg : SG X tg g T) (hb : SSs X W body f) (hs : ∀ x, foldedSetIterable iter X.env x = pure x := by intro _; rfl) :
    SS X W (.For tg iter body [] pos) (sFor it g f) := by
  refine PS.imp (ps_for hp hc hi hg hb hs) fun D σ H h => ?_
  obtain ⟨env, F, R, p⟩ := h
  refine ⟨env, F, R, ?_⟩
  unfold sFor at p
  cases ei : it env with
  | stuck => rw [ei] at p; exact p
  | exc x e => rw [ei] at p; exact fun c d F' H' R' S' X' => p c d σ F' H' R' S' X'
  | ok q e1 =>
    obtain ⟨ds, lk⟩ := q
    rw [ei] at p
    dsimp only at p
    intro J F1 H1 R1 S1 hJ
    have RL := R1.lock (lk := lk)
    have p1 := SPost.locked R1 (SPost.then p S1)
    refine ⟨fun i m σ' H' => m = ds.length - i ∧ i ≤ ds.length ∧ ∃ e F', Rel X.K e F' σ' H' ∧ Stp (lockE lk e1) σ F1 H1 e σ' F' H' ∧ SPost X.K W e F' σ' H' D (forL g f (ds.drop i) e), ⟨ds.length, by simp, Nat.zero_le _, _, F1, RL, Stp.refl, p1⟩, ?_⟩
    rintro i m σ' H' ⟨rfl, hi, e, F', R', S', p'⟩
    have hlk : ∀ a, lkA lk e1 σ a → H' a = H1 a := fun a ha => let ⟨h1, h2⟩ := lkA_not R1 ha; (S'.keep a h1 h2).1
    have hj := hJ e σ' F' H' R' (S'.sub RL) hlk i
    by_cases hlt : i < ds.length
    · have e0 : ds.drop i = ds[i] :: ds.drop (i + 1) := List.drop_eq_getElem_cons hlt
      obtain ⟨go, yl⟩ := hj.2 ds[i] (List.getElem?_eq_getElem hlt)
      refine .inr ⟨go, fun σ2 H2 => ∃ e F', Rel X.K e F' σ2 H2 ∧ Stp (lockE lk e1) σ F1 H1 e σ2 F' H2 ∧ SPost X.K W e F' σ2 H2 D (forL g f (ds.drop (i + 1)) e), fun σ2 H2 h => ⟨_, by omega, rfl, hlt, h⟩, fun x H2 y => ?_⟩
      obtain ⟨F2, R2, S2, r2⟩ := yl x H2 y
      rw [e0] at p'
      unfold forL at p'
      cases hg1 : g ds[i] e with
      | none => rw [hg1] at p'; exact p'.elim
      | some e3 =>
        rw [hg1] at p'
        dsimp only at p'
        refine ⟨e, F2, ds[i], R2, r2, e3, hg1, fun σ3 F3 H3 R3 S3 _ _ => ⟨e3, F3, R3, ?_⟩⟩
        have St := (S'.trans S2).trans S3
        have p3 := SPost.then (SPost.then p' S2) S3
        cases hf : f e3 with
        | nx e4 => rw [hf] at p3; exact fun σ4 F4 H4 R4 S4 => ⟨e4, F4, R4, St.trans S4, SPost.then p3 S4⟩
        | ct e4 => rw [hf] at p3; exact fun σ4 F4 H4 R4 S4 => ⟨e4, F4, R4, St.trans S4, SPost.then p3 S4⟩
        | bk e4 => rw [hf] at p3; exact p3
        | stuck => rw [hf] at p3; exact p3
        | rt r e4 => rw [hf] at p3; exact p3
        | exc x e4 => rw [hf] at p3; exact p3
    · have e0 : i = ds.length := by omega
      subst e0
      rw [List.drop_length] at p'
      exact .inl ⟨hj.1 (Nat.le_refl _), p' σ' F' H' R' Stp.refl⟩
end
end PL

set_option Elab.async false
set_option linter.all false
set_option maxRecDepth 100000
set_option maxHeartbeats 2000000
namespace PySem
open Sem (wp)
open AutoSeq1 (wpAny_loadPart')
theorem pl_enumNew {v : Value} {o : Obj} {H : Heap → Prop} (B : Begins v o H) :
    Meets (Builtin.«enumerate.__new__» ⟨[.type "enumerate", v], []⟩) (fun _ R s => H s.heap ∧
      R (.ok (.ret (.ref (s.heap.push o).objs.size))) { s with heap := (s.heap.push o).push { cls := .type "enumerate", data := .fields #[.none, .bool false, .ref s.heap.objs.size, rawInt 0, .none, .none] } }) :=
  .of_wp fun prog w A R s h => by
    obtain ⟨hp, g, d, tk, os⟩ := s; obtain ⟨h1, h⟩ := h
    have hsub := sub_enumerate
    have q1 : ∀ {A' : Around} {E : Value → Shared → Prop} {Q : Value → Shared → Prop}, Q (.ref hp.objs.size) ⟨hp.push o, g, d, tk, os⟩ → wpAny (model prog w) A' (pyIter v) Q E ⟨hp, g, d, tk, os⟩ :=
      fun q => B.iter prog w _ _ ⟨hp, g, d, tk, os⟩ _ h1 q
    wp_walk using q1
    refine wpAny_stack_any fun st => wpAny_pure ?_
    split
    · rename_i c _ _ _ _ _
      cases (c == Value.type "enumerate")
      · wp_walk using q1
        exact ⟨_, rfl, h⟩
      · wp_walk using q1
        exact ⟨_, rfl, h⟩
    · wp_walk using q1
      exact ⟨_, rfl, h⟩
theorem pl_callEnum {prog : Program} {w : World} {A : Around} {E : Value → Shared → Prop} {s : Shared} {v : Value} {o : Obj} {H : Heap → Prop} {Q : Value → Shared → Prop} (B : Begins v o H) (h1 : H s.heap)
    (h : ∀ h', IsEnum h' (s.heap.objs.size + 1) s.heap.objs.size 0 .none → h'.get? s.heap.objs.size = some o → h'.objs.size = s.heap.objs.size + 2 →
      (∀ b o, s.heap.get? b = some o → h'.get? b = some o) → Q (.ref (s.heap.objs.size + 1)) { s with heap := h' }) :
    wpAny (model prog w) A (call (.type "enumerate") [v]) Q E s := by
  refine callType_new F.called_enumerate (by decide) (F.typeCall_enumerate_1 _) (F.newCall_enumerate_1 _) (fun obj => F.args_object_init_2 obj _) F.entry_enumerate_new
    (pl_enumNew B) ⟨h1, ?_⟩
  have hz : (s.heap.push o).objs.size = s.heap.objs.size + 1 := Heap.size_push ..
  show _ ∧ _
  rw [hz]
  have he : IsEnum ((s.heap.push o).push { cls := .type "enumerate", data := .fields #[.none, .bool false, .ref s.heap.objs.size, rawInt 0, .none, .none] }) (s.heap.objs.size + 1) s.heap.objs.size 0 .none := by
    have := Heap.get?_push_size (s.heap.push o) (o := { cls := .type "enumerate", data := .fields #[.none, .bool false, .ref s.heap.objs.size, rawInt 0, .none, .none] }) rfl
    rw [hz] at this; exact this
  refine ⟨⟨_, he, rfl⟩, h _ he (Heap.get?_push_of_some _ (Heap.get?_push_size _ B.free)) (by rw [Heap.size_push, hz]) fun b o x => Heap.get?_push_of_some _ (Heap.get?_push_of_some _ x)⟩
end PySem
namespace PL
open PySem PySem.Spec PyProof.Rows L2
/-- the tuple at a, each item in a new pair -/
def ItE (K : PySem.W.Frag) (a : Addr) : It :=
  ⟨fun i H => ∃ (xs : List V) (x : V), SqT K H a xs ∧ xs[i]? = some x, fun i H v H' => ∃ T x, v = .ref T ∧ H T = none ∧ H' = upd H T (.tup [.int (i : Nat), x]) ∧ ∀ xs, SqT K H a xs → xs[i]? = some x, fun i H => ∃ xs : List V, SqT K H a xs ∧ xs.length ≤ i⟩
theorem turn_enumT {P : Program} {w : World} {K : PySem.W.Frag} {elts : List Expr} {kk : Nat} {tpos : Pos} (a e it : Addr) (hai : a ≠ it) (hae : a ≠ e) :
    Turn P w K (.Tuple elts kk tpos) (ItE K a) [e, it] e (fun i h => (∃ old, IsEnum h e it ((i : Nat) : Int) old) ∧ h.IsTupleIter it a i ∧ e ≠ it) where
  mem := by simp
  obj := fun i h st b hb => by
    obtain ⟨⟨old, he⟩, ⟨o, ho, hc, hd⟩, _⟩ := st
    have e' : b = e ∨ b = it := by simpa using hb
    rcases e' with z | z
    · rw [z]; exact ⟨_, he, fun v q => nomatch q⟩
    · rw [z]; exact ⟨o, ho, fun v q => by rw [hd] at q; cases q⟩
  keep := fun i h h' st k => let ⟨⟨old, he⟩, hi, hne⟩ := st; ⟨⟨old, k e (by simp) _ he⟩, hi.at fun o q => k it (by simp) o q, hne⟩
  item := by
    intro X hP hw hK hc i pins s σ H E I hf st hg
    subst hP hw hK
    obtain ⟨⟨old, he⟩, hit, hne⟩ := st
    obtain ⟨xs, x, hq, hx⟩ := hg
    obtain ⟨its, rv, p, hz⟩ := I.tuple hq
    obtain ⟨u, hu, ru⟩ := rv.get hx
    have hel : e < s.heap.objs.size := Heap.lt_size he
    have hil : it < s.heap.objs.size := by obtain ⟨_, q, _⟩ := hit; exact Heap.lt_size q
    have Dr := Draws.tuple (prog := X.prog) (w := X.w) (A := X.A.in1) (I.ok.hd hc) it a hai its.toArray
    have pT : s.heap.IsTuple a its.toArray := p
    have hlt : i < its.toArray.size := by
      obtain ⟨q, _⟩ := List.getElem?_eq_some_iff.mp hu
      simpa using q
    refine wpAny_pyNext_enum_itemD Dr he ⟨hit, pT⟩ hlt hne (by simp; exact ⟨hne, fun z => hae z.symm⟩) fun y h' tk hP ho hit' hT hsz hk => ?_
    have ey : y = u := by
      have : its.toArray[i]? = some u := by simpa using hu
      rw [this] at hP
      exact (Option.some.inj hP).symm
    subst ey
    refine ⟨_, rfl, wpAny_letOwnedTupleGo_enum (s := { s with heap := h', toks := tk + 1 }) ho fun h'' he' sb => ?_⟩
    have hT2 : h''.get? s.heap.objs.size = some { cls := .type "tuple", data := .seq #[.int i tk, y] } := (sb.2 _ (Nat.ne_of_gt hel)).trans hT
    have new : ObjOk X.prog X.w (upd H s.heap.objs.size (.tup [.int (i : Nat), x])) h'' s.heap.objs.size (.tup [.int (i : Nat), x]) :=
      ⟨by show 2 ≤ sizeLine; decide, [.int i tk, y], .cons ⟨_, rfl⟩ (.cons ru .nil), ⟨_, hT2, rfl, _, rfl⟩⟩
    have I1 : Inv X pins σ (upd H s.heap.objs.size (.tup [.int (i : Nat), x])) { s with heap := h'', toks := tk + 1 } :=
      I.turnedNew (ch := [e, it]) (fun b ob hb q => (sb.2 b (fun z => hb (by simp [z]))).trans (hk b ob (fun z => hb (by simp [z])) (fun z => hb (by simp [z])) q)) hf (Nat.le_refl _) new
    refine ⟨.ref s.heap.objs.size, _, I1, rfl, ⟨_, x, rfl, I.hok.fresh (Nat.le_refl _), rfl, fun ys hy => by rw [I.tuple_inj hy hq]; exact hx⟩, ⟨⟨y, ?_⟩, hit'.1.at fun o q => (sb.2 it (Ne.symm hne)).trans q, hne⟩, fun b hb => ?_⟩
    · have e1 : ((i + 1 : Nat) : Int) = (i : Int) + 1 := by omega
      rw [e1]; exact he'
    · have hb' : b < s.heap.objs.size := by
        have e' : b = e ∨ b = it := by simpa using hb
        rcases e' with z | z
        · rw [z]; exact hel
        · rw [z]; exact hil
      rw [upd_ne (Nat.ne_of_lt hb')]
      exact (hf b hb).1
  done := by
    intro X hP hw hK hc i pins s σ H E I hf st hg
    subst hP hw hK
    obtain ⟨⟨old, he⟩, hit, hne⟩ := st
    obtain ⟨xs, hq, hx⟩ := hg
    obtain ⟨its, rv, p, hz⟩ := I.tuple hq
    obtain ⟨f0, f1, f2, f3, f4, f5⟩ := hf it (by simp)
    have hl := rv.length
    have pT : s.heap.IsTuple a its.toArray := p
    have hT : s.TypeIs (.ref e) "enumerate" := ⟨_, he, rfl⟩
    unfold pyNext
    refine wpAny_bind (wpAny_attempt (wpAny_callSpecial?_slot (name := Str.ofString "__next__") hT F.slot_enumerate_next
      (wpAny_call_entry F.slot_enumerate_next hT F.entry_enumerate_next ?_ (F.args_enumerate_next_1 _))))
    show wpAny _ _ (PySem.field (.ref e) 2 >>= _) _ _ _
    refine wpAny_bind (wpAny_field he rfl (x := .ref it) rfl ?_)
    refine wpAny_bind (wpAny_nextOf_tuple_end (I.ok.hd hc) hit pT (by simp; omega) fun h' x he' hx' => ?_)
    obtain ⟨o, ho, hc2⟩ := hx'
    refine wpAny_bind (wpAny_isInstance (T := "StopIteration") (b := true) ⟨o, ho, hc2⟩ isSubtype_stop ?_)
    exact wpAny_pure ⟨rfl, I.turned (t' := s.toks) (fun b o hb q => he' b o hb q) f0 f1 f3 f4 f5⟩
  self := fun A i s Q E st h => let ⟨⟨_, he⟩, _⟩ := st; wpAny_pyIter_enum he h
def iEnumA (K : PySem.W.Frag) (ta : TA) : TI := fun σ H R => ta σ H fun vs H1 => ∃ a xs, vs = [.ref a] ∧ ((SqL K H1 a xs ∧ R (Ite K a) H1) ∨ (SqT K H1 a xs ∧ R (ItE K a) H1))
theorem pi_enumA {X : Cx} {e : Expr} {ta : TA} {p pos tpos : Pos} {elts : List Expr} {kk : Nat} (hg : Gl X "enumerate") (hm : X.mg "enumerate" = none) (ha : PA X [e] ta) (hs : starEach [e] X.env = [(false, eval e X.env)] := by rfl) :
    PI X (.Tuple elts kk tpos) (.Call (.Name "enumerate" p) [e] [] pos) (iEnumA X.K ta) := by
  refine ⟨fun pins s σ H R I h => ?_⟩
  refine Call_ (ld_blt I hg hm boot_enumerate (PyProof.Rows.callWith_type1 (thn (ha.run pos pins s σ H _ I h) fun us s1 ⟨vs, H1, I1, r1, q1⟩ => ?_) hs rfl))
  obtain ⟨a, xs, ex, q1⟩ := q1
  subst ex
  cases r1 with
  | cons r rr =>
    cases rr
    cases r
    have fresh : ∀ b ∈ [s1.heap.objs.size + 1, s1.heap.objs.size], FpOk X pins H1 b := fun b hb => by
      have e' : b = s1.heap.objs.size + 1 ∨ b = s1.heap.objs.size := by simpa using hb
      have hle : s1.heap.objs.size ≤ b := by
        rcases e' with z | z
        · rw [z]; exact Nat.le_add_right _ _
        · rw [z]; exact Nat.le_refl _
      exact I1.fpOk hle (I1.hok.fresh hle)
    rcases q1 with ⟨hq, q⟩ | ⟨hq, q⟩
    · obtain ⟨its, rv, p', hz⟩ := I1.list hq
      refine call_enumerate_list p'.isList fun h' he hit hsz hk => wpAny_pyIter_enum he ?_
      have I2 : Inv X pins σ H1 { s1 with heap := h' } := I1.kept (t' := s1.toks) hk
      exact ⟨s1.heap.objs.size + 1, [s1.heap.objs.size + 1, s1.heap.objs.size], _, _, H1, rfl, I2, turn_enum a (s1.heap.objs.size + 1) s1.heap.objs.size, ⟨⟨.none, he⟩, hit, Nat.succ_ne_self _⟩, fresh, q⟩
    · obtain ⟨its, rv, p', hz⟩ := I1.tuple hq
      have pT : s1.heap.IsTuple a its.toArray := p'
      have hal : a < s1.heap.objs.size := by obtain ⟨_, q', _⟩ := pT; exact Heap.lt_size q'
      refine pl_callEnum (begins_tuple a its.toArray) pT fun h' he hit hsz hk => wpAny_pyIter_enum he ?_
      have I2 : Inv X pins σ H1 { s1 with heap := h' } := I1.kept (t' := s1.toks) hk
      exact ⟨s1.heap.objs.size + 1, [s1.heap.objs.size + 1, s1.heap.objs.size], _, _, H1, rfl, I2, turn_enumT a (s1.heap.objs.size + 1) s1.heap.objs.size (Nat.ne_of_lt hal) (Nat.ne_of_lt (Nat.lt_succ_of_lt hal)), ⟨⟨.none, he⟩, ⟨_, hit, rfl, rfl⟩, Nat.succ_ne_self _⟩, fresh, q⟩

/-! ### an iterable as an argument -/
section
variable {K : PySem.W.Frag} {F H F1 H1 Hs : Hp} {env e1 e2 : Env} {σ : St} {W : WX}
/-- what an iterable value is -/
inductive ItIs (K : PySem.W.Frag) (F H : Hp) (σ : St) (a : Addr) (xs : List V) (e : Env) (lk : List Nat) : Prop where
  | lst : SqL K H a xs → (SqL K F a xs ∨ (lkA lk e σ a ∧ SqL K H a xs ∧ H a = some (.lst xs))) → ItIs K F H σ a xs e lk
  | tup : SqT K F a xs → ItIs K F H σ a xs e lk
theorem itRv_ok {r : Rv} {v : V} {ds : List D} {lk : List Nat} (R : Rel K e1 F1 σ H1) (S : Stp env σ F Hs e1 σ F1 H1) (V : RvRel K Hs F1 H1 e1 σ r v) (e : itRv e1 r = .ok (ds, lk) e2) :
    ∃ F2 a xs, Rel K e2 F2 σ H1 ∧ Stp env σ F Hs e2 σ F2 H1 ∧ Sub F1 F2 ∧ v = .ref a ∧ RepL K F2 xs ds ∧ ItIs K F2 H1 σ a xs e2 lk := by
  unfold itRv at e
  cases h1 : itLk e1 r with
  | some q =>
    obtain ⟨ds', i⟩ := q
    rw [h1] at e
    cases e
    obtain ⟨rfl, w, l, h2⟩ := itLk_ok h1
    have hv : σ[i]? = some (some v) := V
    obtain ⟨a, o, z1, z2, z3, z4⟩ := R.sl i _ h2
    rw [hv] at z1
    cases z1
    cases z4 with
    | lst z4 => exact ⟨F1, a, _, R, S, Sub.refl, rfl, z4, .lst (SqL.of z3) (.inr ⟨⟨i, w, l, _, by simp, h2, hv⟩, SqL.of z3, z3⟩)⟩
  | none =>
    rw [h1] at e
    dsimp only at e
    cases h2 : frz e1 r with
    | none => rw [h2] at e; cases e
    | some q =>
      obtain ⟨d, e3⟩ := q
      rw [h2] at e
      dsimp only at e
      obtain ⟨F2, R2, S2, V2, sub⟩ := frz_ok R S V h2
      cases d <;> first | (cases e; done) | skip
      · cases e
        cases V2 with
        | lst g1 g2 => exact ⟨F2, _, _, R2, S2, sub, rfl, g2, .lst (SqL.of (R2.le _ _ g1)) (.inl (SqL.of g1))⟩
      · cases e
        cases V2 with
        | tup g1 g2 => exact ⟨F2, _, _, R2, S2, sub, rfl, g2, .tup g1⟩
theorem itRv_exc {r : Rv} {x : Exc} : itRv e1 r ≠ .exc x e2 := by
  unfold itRv
  split
  · exact fun z => by cases z
  · split
    · split <;> exact fun z => by cases z
    · exact fun z => by cases z
/-- an iterable, then anything -/
theorem use_it {α : Type} {fa : Env → Res Rv} {k : ItR → Env → Res α} {P : Res α → Prop} {G : V → Hp → Prop} (R : Rel K env F σ H) (p : P ((itOf fa env).bind k)) (h0 : P .stuck → False)
    (hx : ∀ x e, P (.exc x e) → ∀ cls d F' H', Rel K e F' σ H' → Stp env σ F H e σ F' H' → XRel K F' x cls d → W cls d σ H')
    (fin : ∀ ds lk e2 F2 H2 a xs, Rel K e2 F2 σ H2 → Stp env σ F H e2 σ F2 H2 → RepL K F2 xs ds → ItIs K F2 H2 σ a xs e2 lk → P (k (ds, lk) e2) → G (.ref a) H2) : tE K W fa σ H G := by
  have p' : P ((fa env).bind fun r e1 => (itRv e1 r).bind k) := by
    unfold itOf at p
    cases ea : fa env with
    | stuck => rw [ea] at p; exact p
    | exc x e1 => rw [ea] at p; exact p
    | ok r e1 => rw [ea] at p; exact p
  refine useE (P := P) R p' h0 hx fun ra e1 x F1 H1 R1 S1 V1 p1 => ?_
  cases h : itRv e1 ra with
  | stuck => rw [h] at p1; exact (h0 p1).elim
  | exc x e2 => exact (itRv_exc h).elim
  | ok q e2 =>
    obtain ⟨ds, lk⟩ := q
    rw [h] at p1
    obtain ⟨F2, a, xs, R2, S2, _, rfl, r2, i2⟩ := itRv_ok R1 S1 V1 h
    exact fin ds lk e2 F2 H1 a xs R2 S2 r2 i2 p1
end
def enumD : Nat → List D → List D
  | _, [] => []
  | k, d :: ds => .tuple [.int (k : Nat), d] :: enumD (k + 1) ds
def itEnum (fa : Env → Res Rv) : Env → Res ItR := fun env => (itOf fa env).bind fun q e => .ok (enumD 0 q.1, q.2) e
theorem enumD_len : ∀ {ds : List D} {k : Nat}, (enumD k ds).length = ds.length
  | [], _ => rfl
  | d :: ds, k => by simp [enumD, enumD_len]
theorem enumD_get : ∀ {ds : List D} {k i : Nat}, (enumD k ds)[i]? = ds[i]?.map fun d => .tuple [.int ((k + i : Nat) : Int), d]
  | [], _, _ => by simp [enumD]
  | d :: ds, k, 0 => by simp [enumD]
  | d :: ds, k, i + 1 => by
    have h := enumD_get (ds := ds) (k := k + 1) (i := i)
    have z : k + 1 + i = k + (i + 1) := by omega
    rw [z] at h
    simpa [enumD] using h
section
variable {K : PySem.W.Frag} {F1 H1 : Hp} {L : Addr → Prop}
theorem pair_laid {env : Env} {σ : St} {F H H' : Hp} {T : Addr} {xs : List V} {ds : List D} (R : Rel K env F σ H) (hT : H T = none) (e : H' = upd H T (.tup xs)) (r : RepL K F xs ds) :
    ∃ F', Rel K env F' σ H' ∧ Stp env σ F H env σ F' H' ∧ Rep K F' (.ref T) (.tuple ds) := by
  subst e
  exact ⟨_, R.laid hT, Stp.laid hT, .tup (SqT.of upd_same) (r.mono (sub_laid R hT))⟩
theorem jok_enumL {a : Addr} {xs : List V} {ds : List D} (r : RepL K F1 xs ds) (h : SqL K F1 a xs ∨ (L a ∧ SqL K H1 a xs ∧ H1 a = some (.lst xs))) : JOk K F1 H1 L (Ite K a) (enumD 0 ds) := by
  intro env σ F H R s k i
  have hq : SqL K H a xs := by
    rcases h with h | ⟨h1, h2, h3⟩
    · exact sqL_sub h (s.trans R.le)
    · exact SqL.of ((k a h1).trans h3)
  refine ⟨fun hi => ⟨xs, hq, by rw [r.length]; rw [enumD_len] at hi; exact hi⟩, fun d hd => ?_⟩
  rw [enumD_get] at hd
  obtain ⟨d', hd', e⟩ := Option.map_eq_some_iff.mp hd
  subst e
  obtain ⟨x, hx, rx⟩ := r.get hd'
  refine ⟨⟨xs, x, hq, hx⟩, fun y H' ⟨T, x', e1, hT, e2, hy⟩ => ?_⟩
  have := hy xs hq
  rw [hx] at this
  cases this
  subst e1
  refine pair_laid R hT e2 (.cons ?_ (.cons (rx.mono s) .nil))
  rw [Nat.zero_add]
  exact .int _
theorem jok_enumT {a : Addr} {xs : List V} {ds : List D} (r : RepL K F1 xs ds) (h : SqT K F1 a xs) : JOk K F1 H1 L (ItE K a) (enumD 0 ds) := by
  intro env σ F H R s k i
  have hq : SqT K H a xs := sqT_sub h (s.trans R.le)
  refine ⟨fun hi => ⟨xs, hq, by rw [r.length]; rw [enumD_len] at hi; exact hi⟩, fun d hd => ?_⟩
  rw [enumD_get] at hd
  obtain ⟨d', hd', e⟩ := Option.map_eq_some_iff.mp hd
  subst e
  obtain ⟨x, hx, rx⟩ := r.get hd'
  refine ⟨⟨xs, x, hq, hx⟩, fun y H' ⟨T, x', e1, hT, e2, hy⟩ => ?_⟩
  have := hy xs hq
  rw [hx] at this
  cases this
  subst e1
  refine pair_laid R hT e2 (.cons ?_ (.cons (rx.mono s) .nil))
  rw [Nat.zero_add]
  exact .int _
end
section
variable {X : Cx} {W : WX} {a : Expr} {fa : Env → Res Rv} {p pos : Pos}
/-- one argument -/
theorem pa_one1 {te : TE} (ha : PE X a te) (hs : starEach [a] X.env = (false, eval a X.env) :: starEach [] X.env) : PA X [a] (fun σ H Q => te σ H fun x H1 => Q [x] H1) := pa_cons ha pa_nil hs
theorem SI.enum {elts : List Expr} {kk : Nat} {tpos : Pos} (hg : Gl X "enumerate") (hm : X.mg "enumerate" = none) (ha : SE X W a fa) (hs : starEach [a] X.env = [(false, eval a X.env)] := by rfl) (hs' : starEach [a] X.env = (false, eval a X.env) :: starEach [] X.env := by rfl) :
    SI X W (.Tuple elts kk tpos) (.Call (.Name "enumerate" p) [a] [] pos) (itEnum fa) := by
  refine PI.imp (pi_enumA hg hm (pa_one1 ha hs') hs) fun σ H Q h => ?_
  obtain ⟨env, F, R, p⟩ := h
  unfold itEnum at p
  refine use_it (P := IPost X.K W env F σ H Q) R p (fun z => z) (fun x e z => z) fun ds lk e2 F2 H2 a xs R2 S2 r i p2 => ?_
  cases i with
  | lst h1 h2 => exact ⟨a, xs, rfl, .inl ⟨h1, p2 _ F2 H2 R2 S2 (jok_enumL r h2)⟩⟩
  | tup h1 => exact ⟨a, xs, rfl, .inr ⟨sqT_sub h1 R2.le, p2 _ F2 H2 R2 S2 (jok_enumT r h1)⟩⟩
end

/-! ### reversed -/
def itRev (fa : Env → Res Rv) : Env → Res ItR := fun env => (itOf fa env).bind fun q e => .ok (q.1.reverse, q.2) e
section
variable {K : PySem.W.Frag} {F1 H1 : Hp} {L : Addr → Prop}
theorem rev_get {α : Type} {ds : List α} {i : Nat} {d : α} (h : ds.reverse[i]? = some d) : i < ds.length ∧ ds[ds.length - 1 - i]? = some d := by
  have hi : i < ds.length := by simpa using (List.getElem?_eq_some_iff.mp h).1
  rw [List.getElem?_reverse hi] at h
  exact ⟨hi, h⟩
theorem jok_revL {a : Addr} {xs : List V} {ds : List D} (r : RepL K F1 xs ds) (h : SqL K F1 a xs ∨ (L a ∧ SqL K H1 a xs ∧ H1 a = some (.lst xs))) : JOk K F1 H1 L (Itv K a xs.length) ds.reverse := by
  intro env σ F H R s k i
  have hq : SqL K H a xs := by
    rcases h with h | ⟨h1, h2, h3⟩
    · exact sqL_sub h (s.trans R.le)
    · exact SqL.of ((k a h1).trans h3)
  refine ⟨fun hi => by show xs.length ≤ i; rw [r.length]; simpa using hi, fun d hd => ?_⟩
  obtain ⟨hi, hd⟩ := rev_get hd
  obtain ⟨x, hx, rx⟩ := r.get hd
  rw [← r.length] at hi hx
  refine ⟨⟨hi, xs, x, hq, hx⟩, fun y H' ⟨e, hy⟩ => ?_⟩
  subst e
  have := hy xs hq
  rw [hx] at this
  cases this
  exact ⟨F, R, Stp.refl, rx.mono s⟩
theorem jok_revT {a : Addr} {xs : List V} {ds : List D} (r : RepL K F1 xs ds) (h : SqT K F1 a xs) : JOk K F1 H1 L (RT.ItvT K a xs.length) ds.reverse := by
  intro env σ F H R s k i
  have hq : SqT K H a xs := sqT_sub h (s.trans R.le)
  refine ⟨fun hi => by show xs.length ≤ i; rw [r.length]; simpa using hi, fun d hd => ?_⟩
  obtain ⟨hi, hd⟩ := rev_get hd
  obtain ⟨x, hx, rx⟩ := r.get hd
  rw [← r.length] at hi hx
  refine ⟨⟨hi, xs, x, hq, hx⟩, fun y H' ⟨e, hy⟩ => ?_⟩
  subst e
  have := hy xs hq
  rw [hx] at this
  cases this
  exact ⟨F, R, Stp.refl, rx.mono s⟩
end
section
variable {X : Cx} {W : WX} {a : Expr} {fa : Env → Res Rv} {tg : Expr} {p pos : Pos}
theorem SI.rev (hg : Gl X "reversed") (hm : X.mg "reversed" = none) (ha : SE X W a fa) (hs : starEach [a] X.env = (false, eval a X.env) :: starEach [] X.env := by rfl) : SI X W tg (.Call (.Name "reversed" p) [a] [] pos) (itRev fa) := by
  refine PI.imp (RT.pi_revA hg hm ha hs) fun σ H Q h => ?_
  obtain ⟨env, F, R, p⟩ := h
  unfold itRev at p
  refine use_it (P := IPost X.K W env F σ H Q) R p (fun z => z) (fun x e z => z) fun ds lk e2 F2 H2 a xs R2 S2 r i p2 => ?_
  cases i with
  | lst h1 h2 => exact ⟨a, xs, rfl, .inl ⟨h1, p2 _ F2 H2 R2 S2 (jok_revL r h2)⟩⟩
  | tup h1 => exact ⟨a, xs, rfl, .inr ⟨sqT_sub h1 R2.le, p2 _ F2 H2 R2 S2 (jok_revT r h1)⟩⟩
end
end PL

set_option Elab.async false
set_option linter.all false
set_option maxRecDepth 100000
set_option maxHeartbeats 2000000
namespace PL
open PySem PySem.Spec PyProof.Rows L2

/-! ### a block's own slots -/
def wipeE (vs : List Nat) (env : Env) : Env := zipE (fun i _ s => if vs.contains i then .un else s) 0 env env
def restE (vs : List Nat) (e0 env : Env) : Env := zipE (fun i s0 s => if vs.contains i then s0 else s) 0 e0 env
def muB : Sl → Bool
  | .mu _ _ _ => true
  | _ => false
/-- none of them holds an object that may change -/
def ownOk (vs : List Nat) (env : Env) : Bool := vs.all fun i => !muB (env[i]?.getD .un)
def W0 : WX := fun _ _ _ _ => False
section
variable {K : PySem.W.Frag} {F H F' H' H0 : Hp} {env e5 : Env} {σ σ2 : St} {vs : List Nat}
theorem wipe_get : ∀ {vs : List Nat} {i : Nat}, (wipe σ vs)[i]? = if vs.contains i then σ[i]?.map fun _ => none else σ[i]?
  | [], i => by simp [wipe]
  | v :: vs, i => by
    unfold wipe
    by_cases h : v = i
    · subst h
      rw [if_pos (by simp)]
      by_cases hv : v < σ.length
      · rw [List.getElem?_set_self (by rw [wipe_length]; exact hv), List.getElem?_eq_getElem hv]
        rfl
      · rw [List.getElem?_eq_none (by rw [List.length_set, wipe_length]; omega), List.getElem?_eq_none (by omega)]
        rfl
    · rw [List.getElem?_set_ne h, wipe_get]
      have : (v :: vs).contains i = vs.contains i := by
        simp only [List.contains_cons]
        have : (i == v) = false := by simpa using fun z => h z.symm
        rw [this]
        rfl
      rw [this]
theorem wipe_out2 {i : Nat} (h : vs.contains i = false) : (wipe σ vs)[i]? = σ[i]? := by
  rw [wipe_get, if_neg (by rw [h]; exact Bool.false_ne_true)]
theorem wipe_eq (hl : σ2.length = σ.length) (h : ∀ j : Nat, vs.contains j = false → σ2[j]? = (wipe σ vs)[j]?) : wipe σ2 vs = wipe σ vs := by
  refine List.ext_getElem? fun i => ?_
  by_cases q : vs.contains i = true
  · rw [wipe_get, wipe_get, if_pos q, if_pos q]
    by_cases hi : i < σ.length
    · rw [List.getElem?_eq_getElem hi, List.getElem?_eq_getElem (by omega)]
      rfl
    · rw [List.getElem?_eq_none (by omega), List.getElem?_eq_none (by omega)]
  · have q' : vs.contains i = false := by simpa using q
    rw [wipe_out2 q', h i q']
theorem wipeE_get {i : Nat} {s : Sl} (h : (wipeE vs env)[i]? = some s) : (vs.contains i = true ∧ s = .un) ∨ (vs.contains i = false ∧ env[i]? = some s) := by
  unfold wipeE at h
  rw [zipE_get, Nat.zero_add] at h
  obtain ⟨s1, h1, h2⟩ := Option.map_eq_some_iff.mp h
  by_cases q : vs.contains i = true
  · rw [if_pos q] at h2; exact .inl ⟨q, h2.symm⟩
  · rw [if_neg q] at h2; exact .inr ⟨by simpa using q, by rw [h1, h2]⟩
theorem wipeE_at {i : Nat} (q : vs.contains i = false) : (wipeE vs env)[i]? = env[i]? := by
  unfold wipeE
  rw [zipE_get, Nat.zero_add]
  cases env[i]? with
  | none => rfl
  | some s => rw [Option.map_some, if_neg (by rw [q]; exact Bool.false_ne_true)]
theorem restE_get {i : Nat} {s : Sl} (h : (restE vs env e5)[i]? = some s) : (vs.contains i = true ∧ s = env[i]?.getD .un) ∨ (vs.contains i = false ∧ e5[i]? = some s) := by
  unfold restE at h
  rw [zipE_get, Nat.zero_add] at h
  obtain ⟨s1, h1, h2⟩ := Option.map_eq_some_iff.mp h
  by_cases q : vs.contains i = true
  · rw [if_pos q] at h2; exact .inl ⟨q, h2.symm⟩
  · rw [if_neg q] at h2; exact .inr ⟨by simpa using q, by rw [h1, h2]⟩
theorem restE_at {i : Nat} (q : vs.contains i = false) : (restE vs env e5)[i]? = e5[i]? := by
  unfold restE
  rw [zipE_get, Nat.zero_add]
  cases e5[i]? with
  | none => rfl
  | some s => rw [Option.map_some, if_neg (by rw [q]; exact Bool.false_ne_true)]
theorem ownOk_mu (ho : ownOk vs env = true) {i : Nat} {w l : Bool} {c : Co} (h : env[i]? = some (.mu w l c)) : vs.contains i = false := by
  cases q : vs.contains i with
  | false => rfl
  | true =>
    have := List.all_eq_true.mp ho i (by simpa using q)
    rw [h] at this
    cases this
theorem Rel.wiped (R : Rel K env F σ H) : Rel K (wipeE vs env) F (wipe σ vs) H := by
  refine ⟨R.le, ?_, fun i s e => ?_, fun i j w l c w' l' c' a e1 e2 s1 s2 => ?_⟩
  · unfold wipeE
    rw [wipe_length, zipE_len, R.len]
  · rcases wipeE_get e with ⟨q, rfl⟩ | ⟨q, e⟩
    · exact trivial
    · rw [wipe_out2 q]
      exact R.sl i s e
  · rcases wipeE_get e1 with ⟨q, z⟩ | ⟨q1, e1⟩
    · cases z
    · rcases wipeE_get e2 with ⟨q, z⟩ | ⟨q2, e2⟩
      · cases z
      · rw [wipe_out2 q1] at s1
        rw [wipe_out2 q2] at s2
        exact R.ap i j w l c w' l' c' a e1 e2 s1 s2
theorem unwipe (R : Rel K env F σ H) (ho : ownOk vs env = true) (R' : Rel K e5 F' σ2 H') (S : Stp (wipeE vs env) (wipe σ vs) F H e5 σ2 F' H') (hw : wipe σ2 vs = wipe σ vs) : Rel K (restE vs env e5) F' σ H' ∧ Stp env σ F H (restE vs env e5) σ F' H' := by
  have sub : Sub F F' := S.sub R.wiped
  have hσ : ∀ {i : Nat}, vs.contains i = false → σ2[i]? = σ[i]? := fun {i} q => by rw [← wipe_out2 (σ := σ2) q, hw, wipe_out2 q]
  have hmu : ∀ {i : Nat} {w l : Bool} {c : Co}, (restE vs env e5)[i]? = some (.mu w l c) → vs.contains i = false ∧ e5[i]? = some (.mu w l c) := fun {i w l c} h => by
    rcases restE_get h with ⟨q, e⟩ | ⟨q, e⟩
    · cases z : env[i]? with
      | none => rw [z] at e; cases e
      | some s =>
        rw [z] at e
        have e' : Sl.mu w l c = s := e
        subst e'
        rw [ownOk_mu ho z] at q
        cases q
    · exact ⟨q, e⟩
  have la : ∀ {a}, LA (wipeE vs env) (wipe σ vs) a → LA env σ a := fun {a} ⟨i, w, c, e, s⟩ => by
    rcases wipeE_get e with ⟨q, z⟩ | ⟨q, e⟩
    · cases z
    · rw [wipe_out2 q] at s
      exact ⟨i, w, c, e, s⟩
  have ma : ∀ {a}, MA (wipeE vs env) (wipe σ vs) a → MA env σ a := fun {a} ⟨i, w, l, c, e, s⟩ => by
    rcases wipeE_get e with ⟨q, z⟩ | ⟨q, e⟩
    · cases z
    · rw [wipe_out2 q] at s
      exact ⟨i, w, l, c, e, s⟩
  refine ⟨⟨R'.le, ?_, fun i s e => ?_, fun i j w l c w' l' c' a e1 e2 s1 s2 => ?_⟩, ⟨fun b hb n => S.keep b hb fun z => n (la z), S.dom, fun a h => ?_, fun a h => ?_, fun i l c e => ?_, fun i w c e => ?_⟩⟩
  · unfold restE
    rw [zipE_len, ← R'.len, ← wipe_length σ2 vs, hw, wipe_length]
  · rcases restE_get e with ⟨q, e⟩ | ⟨q, e⟩
    · cases z : env[i]? with
      | none => rw [z] at e; subst e; exact trivial
      | some s' =>
        rw [z] at e
        have e' : s = s' := e
        subst e'
        have k := R.sl i s z
        cases s with
        | un => exact trivial
        | sh d =>
          obtain ⟨x, h1, h2⟩ := k
          exact ⟨x, h1, h2.mono sub⟩
        | mu w l c => rw [ownOk_mu ho z] at q; cases q
    · rw [← hσ q]
      exact R'.sl i s e
  · obtain ⟨q1, e1⟩ := hmu e1
    obtain ⟨q2, e2⟩ := hmu e2
    rw [← hσ q1] at s1
    rw [← hσ q2] at s2
    exact R'.ap i j w l c w' l' c' a e1 e2 s1 s2
  · obtain ⟨i, w, c, e, s⟩ := h
    obtain ⟨q, e⟩ := hmu e
    rw [← hσ q] at s
    exact (S.newL a ⟨i, w, c, e, s⟩).imp_left la
  · obtain ⟨i, w, l, c, e, s⟩ := h
    obtain ⟨q, e⟩ := hmu e
    rw [← hσ q] at s
    exact (S.newM a ⟨i, w, l, c, e, s⟩).imp_left ma
  · have q := ownOk_mu ho e
    obtain ⟨h1, l1, c1, h2⟩ := S.bor i l c (by rw [wipeE_at q]; exact e)
    exact ⟨rfl, l1, c1, by rw [restE_at q]; exact h2⟩
  · obtain ⟨q, e⟩ := hmu e
    obtain ⟨⟨c0, h1⟩, h2⟩ := S.lkd i w c e
    rw [wipeE_at q] at h1
    exact ⟨⟨c0, h1⟩, rfl⟩
/-- an object that is no slot's takes a new content -/
theorem Rel.poke {p : Addr} {o : HO} (R : Rel K env F σ H) (hF : F p = none) (hm : ¬ MA env σ p) : Rel K env F σ (upd H p o) := by
  refine ⟨fun a u e => ?_, R.len, fun i s e => ?_, R.ap⟩
  · rw [upd_ne (ne_of_none e hF)]
    exact R.le a u e
  · have z := R.sl i s e
    cases s with
    | un => exact trivial
    | sh d => exact z
    | mu w l c =>
      obtain ⟨a, u, h1, h2, h3, h4⟩ := z
      refine ⟨a, u, h1, h2, ?_, h4⟩
      rw [upd_ne]
      · exact h3
      · rintro rfl
        exact hm ⟨i, w, l, c, e, h1⟩
theorem Stp.poke {env0 : Env} {σ0 : St} {F0 H1 : Hp} {p : Addr} {o : HO} (S : Stp env0 σ0 F0 H1 env σ F H) (hp : H1 p = none) : Stp env0 σ0 F0 H1 env σ F (upd H p o) where
  keep := fun b hb n => by
    have ne : b ≠ p := fun z => by rw [z, hp] at hb; exact hb rfl
    rw [upd_ne ne]
    exact S.keep b hb n
  dom := fun b hb => by
    have ne : b ≠ p := fun z => by rw [z, hp] at hb; exact hb rfl
    rw [upd_ne ne]
    exact S.dom b hb
  newL := S.newL
  newM := S.newM
  bor := S.bor
  lkd := S.lkd
end

/-! ### list comprehensions -/
def lcGo (vs : List Nat) (g : Tg) (t : Env → Res Bool) (f : Env → Res Rv) : List D → Env → Res (List D)
  | [], e => .ok [] e
  | x :: xs, e => match g x (wipeE vs e) with
    | none => .stuck
    | some e2 => match t e2 with
      | .ok false e3 => lcGo vs g t f xs (restE vs e e3)
      | .ok true e3 => (match f e3 with
        | .ok r e4 => (match frz e4 r with
          | some (d, e5) => (match lcGo vs g t f xs (restE vs e e5) with
            | .ok ds e6 => .ok (d :: ds) e6
            | _ => .stuck)
          | none => .stuck)
        | _ => .stuck)
      | _ => .stuck
def eLc (vs : List Nat) (it : Env → Res ItR) (g : Tg) (t : Env → Res Bool) (f : Env → Res Rv) : Env → Res Rv := fun env => (it env).bind fun q e1 => if ownOk vs e1 && decide (q.1.length ≤ 16777216) then
    (match lcGo vs g t f q.1 (lockE q.2 e1) with
    | .ok ds e2 => .ok (.fr (.lst ds)) (unlk q.2 e1 e2)
    | _ => .stuck) else .stuck
def tYesP : Env → Res Bool := fun env => .ok true env
theorem lock_own {vs lk : List Nat} {env : Env} (h : ownOk vs env = true) : ownOk vs (lockE lk env) = true := by
  refine List.all_eq_true.mpr fun i hi => ?_
  have z := List.all_eq_true.mp h i hi
  rw [lock_at]
  cases q : env[i]? with
  | none => rfl
  | some s =>
    rw [q] at z
    rw [Option.map_some]
    cases s with
    | mu w l c => cases z
    | un => split <;> rfl
    | sh d => split <;> rfl
theorem rest_own {vs : List Nat} {env e5 : Env} (h : ownOk vs env = true) : ownOk vs (restE vs env e5) = true := by
  refine List.all_eq_true.mpr fun i hi => ?_
  have z := List.all_eq_true.mp h i hi
  cases q : (restE vs env e5)[i]? with
  | none => rfl
  | some s =>
    rcases restE_get q with ⟨_, e⟩ | ⟨q', _⟩
    · rw [e]; exact z
    · rw [show vs.contains i = true by simpa using hi] at q'; cases q'
section
variable {X : Cx} {W : WX}
/-- what the rest of a comprehension gives -/
def LcFin (K : PySem.W.Frag) (W : WX) (env : Env) (F : Hp) (σ : St) (H : Hp) (Q : VK) (lk : List Nat) (e1 : Env) (acc : List D) : Res (List D) → Prop
  | .ok ds e2 => EPost K W env F σ H Q (.ok (.fr (.lst (acc ++ ds))) (unlk lk e1 e2))
  | _ => False
theorem lc_use {σ : St} {H : Hp} {Q : VK} {vs T : List Nat} {it : Env → Res ItR} {g : Tg} {t : Env → Res Bool} {f : Env → Res Rv} (hT : T.all vs.contains = true) (h : tE X.K W (eLc vs it g t f) σ H Q) :
    tLc (tI X.K W it) (tG X.K g T) (tT X.K W0 t) (tE X.K W0 f) vs σ H Q := by
  obtain ⟨env, F, R, p⟩ := h
  refine ⟨env, F, R, ?_⟩
  unfold eLc at p
  cases ei : it env with
  | stuck => rw [ei] at p; exact p
  | exc x e => rw [ei] at p; exact p
  | ok q e1 =>
    obtain ⟨ds, lk⟩ := q
    rw [ei] at p
    dsimp only [Res.bind] at p
    intro J F1 H1 R1 S1 hJ L hL
    by_cases hok : (ownOk vs e1 && decide (ds.length ≤ 16777216)) = true
    · rw [if_pos hok] at p
      simp only [Bool.and_eq_true, decide_eq_true_eq] at hok
      obtain ⟨ho, hz⟩ := hok
      have RL := R1.lock (lk := lk)
      have hoL : ownOk vs (lockE lk e1) = true := lock_own ho
      have p0 : LcFin X.K W env F σ H Q lk e1 [] (lcGo vs g t f ds (lockE lk e1)) := by
        cases q : lcGo vs g t f ds (lockE lk e1) with
        | stuck => rw [q] at p; exact p
        | exc x e => rw [q] at p; exact p
        | ok es e2 => rw [q] at p; exact p
      have hFL : F1 L = none := by
        cases e : F1 L with
        | none => rfl
        | some u => rw [R1.le L u e] at hL; cases hL
      refine ⟨fun i m H' => m = ds.length - i ∧ i ≤ ds.length ∧ ∃ e F' xs acc, Rel X.K e F' σ H' ∧ Stp (lockE lk e1) σ F1 H1 e σ F' H' ∧ ownOk vs e = true ∧ H' L = some (.lst xs) ∧ F' L = none ∧ ¬ MA e σ L ∧ RepL X.K F' xs acc ∧ xs.length ≤ i ∧
        LcFin X.K W env F σ H Q lk e1 acc (lcGo vs g t f (ds.drop i) e), ⟨ds.length, by simp, Nat.zero_le _, _, F1, [], [], RL.fresh hL, Stp.fresh hL, hoL, upd_same, hFL, fresh_ma RL hL, .nil, Nat.zero_le _, p0⟩, ?_⟩
      rintro i m H' ⟨rfl, hi, e, F', xs, acc, R', S', ho', hL', hF', hm', ra, hxl, p'⟩
      have hlk : ∀ a, lkA lk e1 σ a → H' a = H1 a := fun a ha => let ⟨h1, h2⟩ := lkA_not R1 ha; (S'.keep a h1 h2).1
      have hj := hJ e σ F' H' R' (S'.sub RL) hlk i
      by_cases hlt : i < ds.length
      · have e0 : ds.drop i = ds[i] :: ds.drop (i + 1) := List.drop_eq_getElem_cons hlt
        obtain ⟨go, yl⟩ := hj.2 ds[i] (List.getElem?_eq_getElem hlt)
        refine .inr ⟨go, fun H2 => ∃ e F' xs acc, Rel X.K e F' σ H2 ∧ Stp (lockE lk e1) σ F1 H1 e σ F' H2 ∧ ownOk vs e = true ∧ H2 L = some (.lst xs) ∧ F' L = none ∧ ¬ MA e σ L ∧ RepL X.K F' xs acc ∧ xs.length ≤ i + 1 ∧
          LcFin X.K W env F σ H Q lk e1 acc (lcGo vs g t f (ds.drop (i + 1)) e), fun H2 h => ⟨_, by omega, rfl, hlt, h⟩, fun x H2 y => ?_⟩
        obtain ⟨F2, R2, S2, r2⟩ := yl x H2 y
        have hn' : H' L ≠ none := by rw [hL']; simp
        have k2 := S2.keep L hn' fun z => hm' z.ma
        rw [e0] at p'
        unfold lcGo at p'
        cases hg1 : g ds[i] (wipeE vs e) with
        | none => rw [hg1] at p'; exact p'.elim
        | some e3 =>
          rw [hg1] at p'
          dsimp only at p'
          refine ⟨wipeE vs e, F2, ds[i], R2.wiped, r2, e3, hg1, fun σ3 F3 H3 R3 S3 l3 k3 => ?_⟩
          have hw : wipe σ3 vs = wipe σ vs := wipe_eq (by rw [l3, wipe_length]) fun j hj => k3 j fun z => by
            have := List.all_eq_true.mp hT j z
            rw [hj] at this
            cases this
          refine ⟨hw, e3, F3, R3, ?_⟩
          -- behind the turn
          have fin : ∀ {e4 F4 H4}, Rel X.K e4 F4 σ3 H4 → Stp e3 σ3 F3 H3 e4 σ3 F4 H4 → Rel X.K (restE vs e e4) F4 σ H4 ∧ Stp (lockE lk e1) σ F1 H1 (restE vs e e4) σ F4 H4 ∧ ownOk vs (restE vs e e4) = true ∧ H4 L = some (.lst xs) ∧ F4 L = none ∧ ¬ MA (restE vs e e4) σ L ∧ RepL X.K F4 xs acc := fun {e4 F4 H4} R4 S4 => by
            obtain ⟨u1, u2⟩ := unwipe R2 ho' R4 (S3.trans S4) hw
            have u3 := S2.trans u2
            have k4 := u3.keep L hn' fun z => hm' z.ma
            refine ⟨u1, S'.trans u3, rest_own ho', k4.1.trans hL', k4.2.trans hF', fun z => ?_, ra.mono (u3.sub R')⟩
            rcases u3.newM L z with z | z
            · exact hm' z
            · exact hn' z
          cases ht : t e3 with
          | stuck => rw [ht] at p'; exact p'
          | exc x e => rw [ht] at p'; exact p'.elim
          | ok b e4 =>
            rw [ht] at p'
            intro F4 H4 R4 S4
            cases b with
            | false =>
              rw [if_neg Bool.false_ne_true]
              obtain ⟨u1, u2, u3, u4, u5, u6, u7⟩ := fin R4 S4
              exact ⟨_, F4, xs, acc, u1, u2, u3, u4, u5, u6, u7, by omega, p'⟩
            | true =>
              rw [if_pos rfl]
              refine ⟨e4, F4, R4, ?_⟩
              dsimp only at p'
              cases hf : f e4 with
              | stuck => rw [hf] at p'; exact p'
              | exc x e => rw [hf] at p'; exact p'.elim
              | ok r e5 =>
                rw [hf] at p'
                intro y F5 H5 R5 S5 V5
                dsimp only at p'
                cases hz5 : frz e5 r with
                | none => rw [hz5] at p'; exact p'.elim
                | some dz =>
                  obtain ⟨d, e6⟩ := dz
                  rw [hz5] at p'
                  dsimp only at p'
                  obtain ⟨F6, R6, S6, V6, _⟩ := frz_ok R5 S5 V5 hz5
                  obtain ⟨u1, u2, u3, u4, u5, u6, u7⟩ := fin R6 (S4.trans S6)
                  refine ⟨xs, u4, by rw [sizeLine_eq]; omega, _, F6, xs ++ [y], acc ++ [d], u1.poke u5 u6, u2.poke hL, u3, upd_same, u5, u6, u7.append (.cons V6 .nil), by simp; omega, ?_⟩
                  cases hrest : lcGo vs g t f (ds.drop (i + 1)) (restE vs e e6) with
                  | stuck => rw [hrest] at p'; exact p'.elim
                  | exc x e => rw [hrest] at p'; exact p'.elim
                  | ok es e7 =>
                    rw [hrest] at p'
                    show EPost X.K W env F σ H Q (.ok (.fr (.lst (acc ++ [d] ++ es))) (unlk lk e1 e7))
                    rw [List.append_assoc]
                    exact p'
      · have e0 : i = ds.length := by omega
        subst e0
        rw [List.drop_length] at p'
        refine .inl ⟨hj.1 (Nat.le_refl _), ?_⟩
        have p2 : EPost X.K W env F σ H Q (.ok (.fr (.lst (acc ++ []))) (unlk lk e1 e)) := p'
        rw [List.append_nil] at p2
        obtain ⟨a, b⟩ := through R1 R' S'
        exact p2 _ F' H' a (S1.trans b) ⟨L, _, rfl, Classical.byContradiction fun z => S1.dom L z hL, hF', hL', .lst ra, fun z => hm' (unlk_ma.mp z)⟩
    · rw [if_neg hok] at p
      exact p.elim
theorem pts_yes {X : Cx} {W : WX} : PTs X [] (tT X.K W tYesP) := ⟨fun pins s σ H Q I ⟨env, F, R, p⟩ => pts_nil.run pins s σ H Q I (p F H R Stp.refl)⟩
variable {elt tg iter : Expr} {ifs : List Expr} {scope : Scope} {own : List (Str × Nat)} {pos : Pos} {it : Env → Res ItR} {g : Tg} {T : List Nat} {t : Env → Res Bool} {f : Env → Res Rv}
theorem SE.lc (hc : X.calm = true) (hN : X.N.Nodup) (hi : SI X W tg iter it) (ok : BlkOk X.N X.env.scope scope own) (hT : T.all (own.map (·.2)).contains = true)
    (hg : ∀ (s : Shared) (H : Hp) (C : Addr) (cl : List (Str × Addr)) (fp : List Addr), SG (X.blk s H scope (compEnvC scope cl C X.env) fp) tg g T) (ht : ∀ (s : Shared) (H : Hp) (C : Addr) (cl : List (Str × Addr)) (fp : List Addr), PTs (X.blk s H scope (compEnvC scope cl C X.env) fp) ifs (tT X.K W0 t))
    (he : ∀ (s : Shared) (H : Hp) (C : Addr) (cl : List (Str × Addr)) (fp : List Addr), SE (X.blk s H scope (compEnvC scope cl C X.env) fp) W0 elt f) (hs : ∀ x, foldedSetIterable iter X.env x = pure x := by intro _; rfl) :
    SE X W (.ListComp elt [⟨tg, iter, ifs, 0⟩] scope pos) (eLc (own.map (·.2)) it g t f) :=
  PE.imp (pe_lc (g := tG X.K g T) (te := tE X.K W0 f) hc hN hi ok hg ht he hs) fun σ H Q h => lc_use hT h
theorem SS.setLc {i : Nat} {y : Str} {py spos : Pos} (hc : X.calm = true) (hN : X.N.Nodup) (hy : X.N[i]? = some y) (hyl : X.env.scope.names.lookup y = some .local)
    (hsw : swapsWith (.ListComp elt [⟨tg, iter, ifs, 0⟩] scope pos) (some (.Name y py)) spos.line X.env = pure true) (hi : SI X W tg iter it) (ok : BlkOk X.N X.env.scope scope own) (hT : T.all (own.map (·.2)).contains = true)
    (hg : ∀ (s : Shared) (H : Hp) (C : Addr) (cl : List (Str × Addr)) (fp : List Addr), SG (X.blk s H scope (compEnvC scope cl C X.env) fp) tg g T) (ht : ∀ (s : Shared) (H : Hp) (C : Addr) (cl : List (Str × Addr)) (fp : List Addr), PTs (X.blk s H scope (compEnvC scope cl C X.env) fp) ifs (tT X.K W0 t))
    (he : ∀ (s : Shared) (H : Hp) (C : Addr) (cl : List (Str × Addr)) (fp : List Addr), SE (X.blk s H scope (compEnvC scope cl C X.env) fp) W0 elt f) (hs : ∀ x, foldedSetIterable iter X.env x = pure x := by intro _; rfl) :
    SS X W (.Assign [.Name y py] (.ListComp elt [⟨tg, iter, ifs, 0⟩] scope pos) spos) (sSet i (eLc (own.map (·.2)) it g t f)) := by
  refine PS.imp (ps_setLc (g := tG X.K g T) (te := tE X.K W0 f) hc hN hy hyl hsw hi ok hg ht he hs) fun D σ H h => ?_
  obtain ⟨env, F, R, p⟩ := h
  refine lc_use hT (useES R p fun ra e1 v F1 H1 R1 S1 V1 p1 => ?_)
  cases q : asgn e1 i ra with
  | none => rw [q] at p1; exact p1.elim
  | some e2 =>
    rw [q] at p1
    obtain ⟨F2, R2, S2, _⟩ := asgn_ok R1 S1 V1 q
    exact p1 _ F2 H1 R2 S2
end
end PL

set_option Elab.async false
set_option linter.all false
set_option maxRecDepth 100000
set_option maxHeartbeats 8000000
/-! set(a list of ints), as SetFor has it for a tuple -/
namespace L2
open PySem PySem.Spec PyProof.Rows
section
variable {P : Program} {w : World} {A : Around} {E : Value → Shared → Prop} {s : Shared}
abbrev plS (w : World) : Obj := { cls := .type "set", dict := none, data := .set #[] 0 (.fresh 0 0 (!w.params.followText "set-order")) }
/-- what the new set is, and what stayed -/
def PlSet (w : World) (s : Shared) (ns : List Int) (s₂ : Shared) : Prop :=
  ∃ h' tk c, s₂ = { s with heap := h', toks := tk } ∧ SetR w h' s.heap.objs.size (fun j => decide (j ∈ ns)) c ∧ c ≤ ns.length ∧ ∀ b o, s.heap.get? b = some o → h'.get? b = some o
theorem pl_callSet {l : Addr} {items : Array Value} (ns : List Int) {Q : Value → Shared → Prop} (hh : A.handled = none) (hl : s.heap.IsList l items) (hit : IntsAre items.toList ns) (hb : ns.length + 1 < scanBound)
    (h : ∀ s₂, PlSet w s ns s₂ → Q (.ref s.heap.objs.size) s₂) : wpAny (model P w) A (call (.type "set") [.ref l]) Q E s := by
  have hisz : items.size = ns.length := by
    have q := IntsAre.length hit
    rwa [Array.length_toList] at q
  obtain ⟨c, tl, hmro⟩ := PySem.F.called_set.mro
  have hmade := PySem.F.called_set.made
  have hsub := PySem.F.called_set.sub
  refine wpAny_call (codeAny_of_tree ?_)
  show wpAny _ _ (callAny (.type "set") _) _ _ _
  refine wpAny_pure ⟨Code.quiet_builtin _ (by decide +kernel), codeAny_builtin PySem.F.entry_type_call ?_⟩
  rw [Around.under_plain (weight_type_call_type "set" [.ref l] []) rfl]
  have h1 := PySem.F.called_set.notType
  have h2 := PySem.F.called_set.canCreate
  have hct := PySem.F.typeCall_set_1 (.ref l)
  repeat (any_goals (first | assumption | wp_step))
  refine codeAny_mono (code_set_led1 (.ref l) (E := E) (Q₁ := fun obj s₁ => obj = .ref s.heap.objs.size ∧ s₁ = { s with heap := s.heap.push (plS w) }) ⟨rfl, rfl⟩) fun r s₁ hr => ?_
  cases r with
  | error e => exact hr
  | ok fl =>
    cases fl <;> first | exact hr.elim | skip
    obtain ⟨rfl, rfl⟩ := hr
    have hS : (s.heap.push (plS w)).get? s.heap.objs.size = some (plS w) := Heap.get?_push_size _ rfl
    have hT : Shared.TypeIs { s with heap := s.heap.push (plS w) } (.ref s.heap.objs.size) "set" := ⟨_, hS, rfl⟩
    have hli := PySem.F.called_set.init.lookup
    have hbi := PySem.F.called_set.init.bind (.ref s.heap.objs.size)
    repeat (any_goals (first | assumption | wp_step))
    refine codeAny_mono (codeAny_call_builtin (R := wants (fun r s₂ => r = .none ∧ PlSet w s ns s₂) E) PySem.F.called_set.init.plain PySem.F.entry_set_init (check_set_init_1 hT ?_)) fun r₂ s₂ hr₂ => ?_
    · obtain ⟨⟨ocls, odict, odata, oslots⟩, hol, hcl, nl, hdl⟩ := hl
      simp only at hcl hdl
      subst hcl hdl
      have hol' : (s.heap.push (plS w)).get? l = some { cls := .type "list", dict := odict, data := .seq items nl, slots := oslots } := Heap.get?_push_of_some _ hol
      have hsls := PySem.F.sub_list_set
      have hslf := PySem.F.sub_list_frozenset
      have hne : (Value.type "list" == Value.type "dict") = false := by decide
      have hl1 : (s.heap.push (plS w)).IsList l items := ⟨_, hol', rfl, nl, rfl⟩
      unfold Builtin.«set.__init__» noKeywords Builtin.Frozenset.updateFrom
      generalize hPI : pyIter = PI
      wp_walk
      subst hPI
      refine wpAny_pyIter_list hl1 (wpAny_bind (wpAny_runValue ?_))
      have hlS : l < s.heap.objs.size := Heap.lt_size hol
      have hh3 : A.in1.in1.in1.handled = none := by simp [hh]
      have hz1 : (s.heap.push (plS w)).objs.size = s.heap.objs.size + 1 := Heap.size_push ..
      have hneI : l ≠ (s.heap.push (plS w)).objs.size := by
        rw [hz1]; exact Nat.ne_of_lt (Nat.lt_succ_of_lt hlS)
      have hSf : s.heap.objs.size ∉ [(s.heap.push (plS w)).objs.size, l] := by
        rw [hz1]
        simp only [List.mem_cons, List.mem_singleton, List.not_mem_nil, or_false, not_or]
        exact ⟨Nat.ne_of_lt (Nat.lt_succ_self _), Nat.ne_of_gt hlS⟩
      have hval : ∀ (i : Nat) (v : Value), items[i]? = some v → ∃ k t, ns[i]? = some k ∧ v = .int k t := fun i v hv => by
        have hi : i < ns.length := by rw [← hisz]; exact (Array.getElem?_eq_some_iff.mp hv).1
        obtain ⟨t, e⟩ := PyProof.Rows.IntsAre.int_at hit i v (by rw [Array.getElem?_toList]; exact hv)
        refine ⟨ns[i], t, List.getElem?_eq_getElem hi, ?_⟩
        rw [e, List.getD_eq_getElem?_getD, List.getElem?_eq_getElem hi] <;> rfl
      refine set_update_ints ((Walks.list hh3 _ l hneI items).toS) s.heap.objs.size hSf ns hisz hb hval (items.size - 0) 0 _ (by omega) (Nat.zero_le _)
        ⟨⟨_, Heap.get?_push_size _ rfl, rfl, rfl⟩, (hl1.push _)⟩ ⟨0, Nat.le_refl 0, setR_new_at (Heap.get?_push_of_some _ hS)⟩ fun s' c' hm hc' hS' => ?_
      obtain ⟨h', g2, d', tk', os'⟩ := s'
      have eg : g2 = s.gens := hm.gens
      have ed : d' = s.drawn := hm.drawn
      have eo : os' = s.os := hm.os
      subst eg ed eo
      refine wpAny_pure ?_
      show wpAny _ _ (ret Value.none) _ _ _
      rw [hisz] at hc'
      refine wpAny_pure ⟨rfl, h', tk', c', rfl, hS', hc', fun b o e => ?_⟩
      have hb0 : b < s.heap.objs.size := Heap.lt_size e
      refine hm.heap b o ?_ (Heap.get?_push_of_some _ (Heap.get?_push_of_some _ e))
      rw [hz1]
      simp only [List.mem_cons, List.mem_singleton, List.not_mem_nil, or_false, not_or]
      exact ⟨Nat.ne_of_lt hb0, Nat.ne_of_lt (Nat.lt_succ_of_lt hb0)⟩
    · cases r₂ with
      | error e => exact hr₂
      | ok fl₂ =>
        cases fl₂ <;> first | exact hr₂.elim | skip
        obtain ⟨rfl, hs2⟩ := hr₂
        repeat (any_goals (first | assumption | wp_step))
        exact h _ hs2
end
end L2

set_option Elab.async false
set_option linter.all false
set_option maxRecDepth 100000
set_option maxHeartbeats 4000000
/-! tuple * 1 -/
namespace L2
open PySem PySem.Spec PyProof.Rows
theorem pl_tupleOnce (l : Addr) (items : Array Value) (n : Nat) (dd : Option Addr) (sl : Array (Option Value)) (u : Tok) :
    Meets (Builtin.«tuple.__mul__» ⟨[.ref l, .int 1 u], []⟩) (fun _ R s => s.heap.get? l = some { cls := .type "tuple", dict := dd, data := .seq items n, slots := sl } ∧ R (.ok (.ret (Value.ref l))) s) :=
  .of_wp fun prog w A R s h => by
    obtain ⟨hp, g, d, tk, os⟩ := s
    obtain ⟨hl, h⟩ := h
    have f1 := AutoSeq1.idx_int
    wp_walk using wpAny_loadPart' hl
    exact ⟨_, rfl, h⟩
section
variable {X : Cx}
def plRep1 (K : PySem.W.Frag) : R2 := fun x y H Q => ∃ l xs, x = .ref l ∧ y = .int 1 ∧ SqT K H l xs ∧ Q (.ref l) H
theorem pl_op_rep1 : OpR X (binaryOp .Mult) (plRep1 X.K) := by
  intro pins s σ H x y v u Q I rx ry h
  obtain ⟨l, xs, rfl, rfl, hT, q⟩ := h
  cases rx
  obtain ⟨t, rfl⟩ := ry
  obtain ⟨its, r, ⟨⟨cls, dd, data, sl⟩, ho, hc, n, hd⟩, hs⟩ := I.tuple hT
  simp only at hc hd
  subst hc hd
  refine wpAny_binaryOp_repeat_ref (T := "tuple") (U := "int") (by decide) ⟨_, ho, rfl⟩ (fun s' => typeIs_int s' 1 t) noFill_tuple_mul F.fills_int_mul F.slot_int_rmul repeat_tuple F.slot_int_index.lookup
    (call_meets F.slot_int_rmul (typeIs_int s 1 t) F.entry_int_rmul (F.args_int_rmul_2 _ _) (int_rmul_tuple 1 t l its.toArray n dd sl)
      ⟨ho, rfl, ⟨_, ho, rfl⟩, call_meets F.slot_tuple_mul ⟨_, ho, rfl⟩ F.entry_tuple_mul (F.args_tuple_mul_2 _ _) (pl_tupleOnce l its.toArray n dd sl t) ⟨ho, ?_⟩⟩)
  exact ⟨.ref l, H, I, rfl, q⟩
end
end L2
namespace PL
open PySem PySem.Spec PyProof.Rows L2

/-! ### two operands, any result -/
def eBinR (g : D → D → Option Rv) (fa fb : Env → Res Rv) : Env → Res Rv := fun env => (fa env).bind fun ra e1 => (fb e1).bind fun rb e2 => match (peek e2 ra).bind fun x => (peek e2 rb).bind fun y => g x y with
  | some r => .ok r e2
  | none => .stuck
/-- a value as an operand shows it -/
def Shw (K : PySem.W.Frag) (F H : Hp) (v : V) (d : D) : Prop := Rep K F v d ∨ ∃ a o c, v = .ref a ∧ H a = some o ∧ CRep K F o c ∧ coD c = some d
theorem Shw.rep {K : PySem.W.Frag} {F H : Hp} {v : V} {d : D} (h : Shw K F H v d) (s : Sub F H) : Rep K H v d := by
  rcases h with h | ⟨a, o, c, rfl, h1, h2, h3⟩
  · exact h.mono s
  · exact coD_rep h2 h3 s h1
theorem Shw.lst {K : PySem.W.Frag} {F H : Hp} {v : V} {ds : List D} (h : Shw K F H v (.list ds)) (s : Sub F H) : ∃ a xs, v = .ref a ∧ H a = some (.lst xs) ∧ RepL K F xs ds := by
  rcases h with h | ⟨a, o, c, rfl, h1, h2, h3⟩
  · cases h with
    | lst h1 h2 => exact ⟨_, _, rfl, s _ _ h1, h2⟩
  · cases h2 with
    | lst h => cases h3; exact ⟨a, _, rfl, h1, h⟩
    | ins _ _ => cases h3
    | dct _ _ => cases h3
theorem Shw.tup {K : PySem.W.Frag} {F H : Hp} {v : V} {ds : List D} (h : Shw K F H v (.tuple ds)) (s : Sub F H) : ∃ a xs, v = .ref a ∧ SqT K F a xs ∧ RepL K F xs ds := by
  rcases h with h | ⟨a, o, c, rfl, h1, h2, h3⟩
  · cases h with
    | tup h1 h2 => exact ⟨_, _, rfl, h1, h2⟩
  · cases h2 with
    | lst h => cases h3
    | ins _ _ => cases h3
    | dct _ _ => cases h3
/-- what an operator's rule asks: the new value is handed on -/
def Op2R (X : Cx) (r : R2) (g : D → D → Option Rv) : Prop := ∀ (σ : St) env F H x y dx dy rv Q, Rel X.K env F σ H → Shw X.K F H x dx → Shw X.K F H y dy → g dx dy = some rv →
  (∀ v F' H', Rel X.K env F' σ H' → Stp env σ F H env σ F' H' → RvRel X.K H F' H' env σ rv v → Q v H') → r x y H Q
section
variable {X : Cx} {W : WX} {a b : Expr} {fa fb : Env → Res Rv} {pos : Pos} {g : D → D → Option Rv} {r : R2}
theorem SE.opR {op : Operator} (ho : OpR X (binaryOp op) r) (o2 : Op2R X r g) (sa : SE X W a fa) (sb : SE X W b fb) : SE X W (.BinOp a op b pos) (eBinR g fa fb) :=
  PE.imp (pe_op ho sa sb) fun σ H Q h => by
    obtain ⟨env, F, R, p⟩ := h
    refine use2 R p fun ra rb e2 x y F2 H2 R2 S2 V1 V2 p2 => ?_
    cases h1 : peek e2 ra with
    | none => rw [h1] at p2; exact p2.elim
    | some dx =>
      cases h2 : peek e2 rb with
      | none => rw [h1, h2] at p2; exact p2.elim
      | some dy =>
        rw [h1, h2] at p2
        have p3 : EPost X.K W env F σ H Q (match g dx dy with | some r => .ok r e2 | none => .stuck) := p2
        cases h3 : g dx dy with
        | none => rw [h3] at p3; exact p3.elim
        | some rv =>
          rw [h3] at p3
          exact o2 σ e2 F2 H2 x y dx dy rv Q R2 (peek_top R2 V1 h1) (peek_top R2 V2 h2) h3 fun v F' H' R' S' V' => p3 v F' H' R' (S2.trans S') (V'.older S2.dom)
theorem Op2R.or {r' : R2} {g' : D → D → Option Rv} (h : Op2R X r g) (h' : Op2R X r' g') : Op2R X (fun x y H Q => r x y H Q ∨ r' x y H Q) (fun x y => (g x y).orElse fun _ => g' x y) := by
  intro σ env F H x y dx dy rv Q R s1 s2 e q
  dsimp only at e
  cases h1 : g dx dy with
  | some z =>
    rw [h1] at e
    exact .inl (h σ env F H x y dx dy rv Q R s1 s2 (h1.trans e) q)
  | none =>
    rw [h1] at e
    exact .inr (h' σ env F H x y dx dy rv Q R s1 s2 e q)
/-- a scalar operator -/
theorem Op2R.sc {g : D → D → Option D} (h : Op2 X r g) : Op2R X r (fun x y => (g x y).map .d) := by
  intro σ env F H x y dx dy rv Q R s1 s2 e q
  obtain ⟨d, h1, h2⟩ := Option.map_eq_some_iff.mp e
  subst h2
  exact h x y dx dy d H Q (s1.rep R.le) (s2.rep R.le) h1 fun v s => q v F H R Stp.refl (s _ _)
end
def gCatT : D → D → Option Rv
  | .tuple xs, .tuple ys => if xs.length + ys.length ≤ 16777216 then some (.d (.tuple (xs ++ ys))) else none
  | _, _ => none
def gCatL : D → D → Option Rv
  | .list xs, .list ys => if xs.length + ys.length ≤ 16777216 then some (.fr (.lst (xs ++ ys))) else none
  | _, _ => none
def gRepT : D → D → Option Rv
  | .tuple xs, .int k => if k = 1 then some (.d (.tuple xs)) else if xs ≠ [] ∧ 2 ≤ k ∧ k ≤ 1000 ∧ xs.length ≤ 1000 then some (.d (.tuple (List.replicate k.toNat xs).flatten)) else none
  | _, _ => none
def gRepL : D → D → Option Rv
  | .list xs, .int k => if 0 ≤ k ∧ k ≤ 16777216 ∧ xs.length * k.toNat ≤ 16777216 then some (.fr (.lst (List.replicate k.toNat xs).flatten)) else none
  | _, _ => none
section
variable {X : Cx}
theorem RepL.rep {K : PySem.W.Frag} {F : Hp} {xs : List V} {ds : List D} (h : RepL K F xs ds) : ∀ n : Nat, RepL K F (List.replicate n xs).flatten (List.replicate n ds).flatten
  | 0 => .nil
  | n + 1 => by
    rw [List.replicate_succ, List.replicate_succ, List.flatten_cons, List.flatten_cons]
    exact h.append (RepL.rep h n)
theorem new_tup {env : Env} {σ : St} {F H : Hp} {Q : VK} {xs : List V} {ds : List D} {p : Addr} (R : Rel X.K env F σ H) (r : RepL X.K F xs ds) (hp : H p = none)
    (q : ∀ v F' H', Rel X.K env F' σ H' → Stp env σ F H env σ F' H' → RvRel X.K H F' H' env σ (.d (.tuple ds)) v → Q v H') : Q (.ref p) (upd H p (.tup xs)) :=
  q _ _ _ (R.laid hp) (Stp.laid hp) (Rep.tup (SqT.of upd_same) (r.mono (sub_laid R hp)))
theorem new_lst {env : Env} {σ : St} {F H : Hp} {Q : VK} {xs : List V} {ds : List D} {p : Addr} (R : Rel X.K env F σ H) (r : RepL X.K F xs ds) (hp : H p = none)
    (q : ∀ v F' H', Rel X.K env F' σ H' → Stp env σ F H env σ F' H' → RvRel X.K H F' H' env σ (.fr (.lst ds)) v → Q v H') : Q (.ref p) (upd H p (.lst xs)) := by
  have hF : F p = none := by
    cases e : F p with
    | none => rfl
    | some u => rw [R.le p u e] at hp; cases hp
  exact q _ F _ (R.fresh hp) (Stp.fresh hp) ⟨p, _, rfl, hp, hF, upd_same, .lst r, fresh_ma R hp⟩
theorem repL_nil {K : PySem.W.Frag} {F : Hp} {xs : List V} {ds : List D} (h : RepL K F xs ds) : xs = [] ↔ ds = [] := by
  cases h <;> simp
theorem o2_catT : Op2R X (rCatA X.K) gCatT := by
  intro σ env F H x y dx dy rv Q R s1 s2 e q
  unfold gCatT at e
  split at e
  · rename_i xs ys
    split at e
    · rename_i hl
      cases e
      obtain ⟨a, us, rfl, h1, r1⟩ := s1.tup R.le
      obtain ⟨b, ws, rfl, h2, r2⟩ := s2.tup R.le
      refine ⟨a, b, us, ws, rfl, rfl, sqT_sub h1 R.le, sqT_sub h2 R.le, by rw [r1.length, r2.length, sizeLine_eq]; exact hl, fun z => ?_, fun z1 z2 => ?_, fun _ _ p hp => new_tup R (r1.append r2) hp q⟩
      · rw [(repL_nil r1).mp z, List.nil_append] at q
        exact q _ F H R Stp.refl (Rep.tup h2 r2)
      · rw [(repL_nil r2).mp z2, List.append_nil] at q
        exact q _ F H R Stp.refl (Rep.tup h1 r1)
    · cases e
  · cases e
theorem o2_catL : Op2R X rCat gCatL := by
  intro σ env F H x y dx dy rv Q R s1 s2 e q
  unfold gCatL at e
  split at e
  · rename_i xs ys
    split at e
    · rename_i hl
      cases e
      obtain ⟨a, us, rfl, h1, r1⟩ := s1.lst R.le
      obtain ⟨b, ws, rfl, h2, r2⟩ := s2.lst R.le
      exact ⟨a, b, us, ws, rfl, rfl, h1, h2, by rw [r1.length, r2.length, sizeLine_eq]; exact hl, fun p hp => new_lst R (r1.append r2) hp q⟩
    · cases e
  · cases e
theorem shw_int {K : PySem.W.Frag} {F H : Hp} {v : V} {i : Int} (h : Shw K F H v (.int i)) (s : Sub F H) : v = .int i := rep_int (h.rep s)
theorem o2_repT : Op2R X (fun x y H Q => plRep1 X.K x y H Q ∨ rRepT X.K x y H Q) gRepT := by
  intro σ env F H x y dx dy rv Q R s1 s2 e q
  unfold gRepT at e
  split at e
  · rename_i xs k
    obtain ⟨a, us, rfl, h1, r1⟩ := s1.tup R.le
    rw [shw_int s2 R.le]
    split at e
    · rename_i hk
      cases e
      subst hk
      exact .inl ⟨a, us, rfl, rfl, sqT_sub h1 R.le, q _ F H R Stp.refl (Rep.tup h1 r1)⟩
    · split at e
      · rename_i hl
        cases e
        exact .inr ⟨a, k, us, rfl, rfl, sqT_sub h1 R.le, fun z => hl.1 ((repL_nil r1).mp z), hl.2.1, hl.2.2.1, by rw [r1.length]; exact hl.2.2.2, fun p hp => new_tup R (r1.rep _) hp q⟩
      · cases e
  · cases e
theorem o2_repL : Op2R X rRep gRepL := by
  intro σ env F H x y dx dy rv Q R s1 s2 e q
  unfold gRepL at e
  split at e
  · rename_i xs k
    obtain ⟨a, us, rfl, h1, r1⟩ := s1.lst R.le
    rw [shw_int s2 R.le]
    split at e
    · rename_i hl
      cases e
      exact ⟨a, k, us, rfl, rfl, h1, by omega, by omega, by rw [r1.length, sizeLine_eq]; exact hl.2.2, fun p hp => new_lst R (r1.rep _) hp q⟩
    · cases e
  · cases e
end
/-- a + b: ints, tuples, lists -/
def gPlus (x y : D) : Option Rv := ((gAdd x y).map Rv.d).orElse fun _ => (gCatT x y).orElse fun _ => gCatL x y
/-- a * b -/
def gTimes (x y : D) : Option Rv := ((gMul x y).map Rv.d).orElse fun _ => (gRepT x y).orElse fun _ => gRepL x y
section
variable {X : Cx} {W : WX} {a b : Expr} {fa fb : Env → Res Rv} {pos : Pos}
theorem SE.plus (sa : SE X W a fa) (sb : SE X W b fb) : SE X W (.BinOp a .Add b pos) (eBinR gPlus fa fb) :=
  SE.opR (op_add.or (op_catA.or op_cat)) (Op2R.or (Op2R.sc o2_add) (Op2R.or o2_catT o2_catL)) sa sb
theorem SE.times (sa : SE X W a fa) (sb : SE X W b fb) : SE X W (.BinOp a .Mult b pos) (eBinR gTimes fa fb) :=
  SE.opR (op_mul.or ((pl_op_rep1.or op_repT).or op_rep)) (Op2R.or (Op2R.sc o2_mul) (Op2R.or o2_repT o2_repL)) sa sb
end

/-! ### built-in functions -/
/-- what the arguments show -/
def peeks (env : Env) : List Rv → Option (List D)
  | [] => some []
  | r :: rs => (peek env r).bind fun d => (peeks env rs).map fun ds => d :: ds
def eB (g : List D → Option Rv) (fs : List (Env → Res Rv)) : Env → Res Rv := fun env => (eRs fs env).bind fun rs e1 => match (peeks e1 rs).bind g with
  | some r => .ok r e1
  | none => .stuck
inductive ShwL (K : PySem.W.Frag) (F H : Hp) : List V → List D → Prop
  | nil : ShwL K F H [] []
  | cons {v : V} {d : D} {vs : List V} {ds : List D} : Shw K F H v d → ShwL K F H vs ds → ShwL K F H (v :: vs) (d :: ds)
def CallB (X : Cx) (r : List V → Hp → VK → Prop) (g : List D → Option Rv) : Prop := ∀ (σ : St) env F H xs ds rv Q, Rel X.K env F σ H → ShwL X.K F H xs ds → g ds = some rv →
  (∀ v F' H', Rel X.K env F' σ H' → Stp env σ F H env σ F' H' → RvRel X.K H F' H' env σ rv v → Q v H') → r xs H Q
theorem CallB.or {X : Cx} {r r' : List V → Hp → VK → Prop} {g g' : List D → Option Rv} (h : CallB X r g) (h' : CallB X r' g') : CallB X (fun x H Q => r x H Q ∨ r' x H Q) (fun x => (g x).orElse fun _ => g' x) := by
  intro σ env F H x dx rv Q R s1 e q
  dsimp only at e
  cases h1 : g dx with
  | some z =>
    rw [h1] at e
    exact .inl (h σ env F H x dx rv Q R s1 (h1.trans e) q)
  | none =>
    rw [h1] at e
    exact .inr (h' σ env F H x dx rv Q R s1 e q)
theorem peeks_shw {K : PySem.W.Frag} {env : Env} {F H Hs : Hp} {σ : St} (R : Rel K env F σ H) : ∀ {rs : List Rv} {vs : List V} {ds : List D}, RsRel K Hs F H env σ rs vs → peeks env rs = some ds → ShwL K F H vs ds
  | [], [], ds, _, e => by cases e; exact .nil
  | [], _ :: _, _, r, _ => by have := r.len; simp at this
  | _ :: _, [], _, r, _ => by have := r.len; simp at this
  | r :: rs, v :: vs, ds, h, e => by
    unfold peeks at e
    obtain ⟨d, h1, h2⟩ := Option.bind_eq_some_iff.mp e
    obtain ⟨ds', h3, h4⟩ := Option.map_eq_some_iff.mp h2
    subst h4
    refine .cons (peek_top R (h.each 0 r v rfl rfl) h1) (peeks_shw R (rs := rs) (vs := vs) ⟨fun j r' v' e1 e2 => h.each (j + 1) r' v' (by simpa using e1) (by simpa using e2), by simpa using h.len, fun i j c c' a e1 e2 e3 e4 => ?_⟩ h3)
    have := h.apart (i + 1) (j + 1) c c' a (by simpa using e1) (by simpa using e2) (by simpa using e3) (by simpa using e4)
    omega
section
variable {X : Cx} {W : WX} {e : Expr} {es : List Expr} {fs : List (Env → Res Rv)} {p pos : Pos} {x : Str} {r : List V → Hp → VK → Prop} {g : List D → Option Rv}
theorem use_b (hb : CallB X r g) {σ : St} {H : Hp} {Q : VK} (h : tE X.K W (eB g fs) σ H Q) : tR X.K W (eRs fs) σ H fun vs H1 => r vs H1 Q := by
  obtain ⟨env, F, R, p⟩ := h
  refine ⟨env, F, R, ?_⟩
  unfold eB at p
  cases ea : eRs fs env with
  | stuck => rw [ea] at p; exact p
  | exc x e => rw [ea] at p; exact p
  | ok rs e1 =>
    rw [ea] at p
    intro vs F1 H1 R1 S1 RR
    have p1 : EPost X.K W env F σ H Q (match (peeks e1 rs).bind g with | some r => .ok r e1 | none => .stuck) := p
    cases h1 : peeks e1 rs with
    | none => rw [h1] at p1; exact p1.elim
    | some ds =>
      rw [h1] at p1
      have p2 : EPost X.K W env F σ H Q (match g ds with | some r => .ok r e1 | none => .stuck) := p1
      cases h2 : g ds with
      | none => rw [h2] at p2; exact p2.elim
      | some rv =>
        rw [h2] at p2
        exact hb σ e1 F1 H1 vs ds rv Q R1 (peeks_shw R1 RR h1) h2 fun v F' H' R' S' V' => p2 v F' H' R' (S1.trans S') (V'.older S1.dom)
theorem SE.blt {id : String} (hc : CallR X (.builtin id) r) (hb : CallB X r g) (hg : Gl X x) (hm : X.mg x = none) (hv : bootBuiltins x = some (.builtin id)) (ha : SR X W (e :: es) fs) (hn : x ≠ "__name__" := by decide) (hdb : (x == ("__debug__" : Str)) = false := by decide)
    (he : starEach (e :: es) X.env = (false, eval e X.env) :: starEach es X.env := by rfl) (hpl : (backTo pos (starEach es X.env)).any (·.1) = false := by rfl) : SE X W (.Call (.Name x p) (e :: es) [] pos) (eB g fs) :=
  PE.imp (pe_callB hc hg hm hv ha hn hdb he hpl) fun σ H Q h => use_b hb h
theorem SE.bty {T : String} (hc : CallR X (.type T) r) (hb : CallB X r g) (hg : Gl X x) (hm : X.mg x = none) (hv : bootBuiltins x = some (.type T)) (ha : SR X W (e :: es) fs) (hn : x ≠ "__name__" := by decide) (hdb : (x == ("__debug__" : Str)) = false := by decide)
    (he : starEach (e :: es) X.env = (false, eval e X.env) :: starEach es X.env := by rfl) (hpl : (backTo pos (starEach es X.env)).any (·.1) = false := by rfl) : SE X W (.Call (.Name x p) (e :: es) [] pos) (eB g fs) :=
  PE.imp (pe_callTy hc hg hm hv ha hn hdb he hpl) fun σ H Q h => use_b hb h
end
end PL

set_option Elab.async false
set_option linter.all false
set_option maxRecDepth 100000
set_option maxHeartbeats 4000000
namespace PL
open PySem PySem.Spec PyProof.Rows L2

/-! ### len, abs, int, max, min -/
def bLen : List D → Option Rv
  | [.list ds] => some (.d (.int (ds.length : Nat)))
  | [.tuple ds] => some (.d (.int (ds.length : Nat)))
  | [.str z] => if z.length ≤ 16777216 then some (.d (.int (z.length : Nat))) else none
  | [.dict [(.bool true, .list ds)]] => some (.d (.int (ds.length : Nat)))
  | _ => none
def bAbs : List D → Option Rv
  | [.int i] => some (.d (.int (if i < 0 then -i else i)))
  | _ => none
def bInt : List D → Option Rv
  | [.int i] => some (.d (.int i))
  | [.bool k] => some (.d (.int (if k then 1 else 0)))
  | _ => none
def bMax2 : List D → Option Rv
  | [.int i, .int j] => some (.d (.int (if j > i then j else i)))
  | _ => none
def bMin2 : List D → Option Rv
  | [.int i, .int j] => some (.d (.int (if j < i then j else i)))
  | _ => none
def boolsD : List D → Option (List Bool)
  | [] => some []
  | .bool b :: ds => (boolsD ds).map fun bs => b :: bs
  | _ => none
def intsD : List D → Option (List Int)
  | [] => some []
  | .int b :: ds => (intsD ds).map fun bs => b :: bs
  | _ => none
def bAll : List D → Option Rv
  | [.list ds] => (boolsD ds).map fun bs => .d (.bool (bs.all id))
  | _ => none
def bAny : List D → Option Rv
  | [.list ds] => (boolsD ds).map fun bs => .d (.bool (bs.any id))
  | _ => none
def bSum : List D → Option Rv
  | [.list ds] => (intsD ds).map fun ns => .d (.int ns.sum)
  | _ => none
def bList : List D → Option Rv
  | [.list ds] => some (.fr (.lst ds))
  | [.tuple ds] => some (.fr (.lst ds))
  | _ => none
def bTup : List D → Option Rv
  | [.list ds] => some (.d (.tuple ds))
  | [.tuple ds] => some (.d (.tuple ds))
  | _ => none
section
variable {X : Cx}
theorem shwL1 {K : PySem.W.Frag} {F H : Hp} {xs : List V} {d : D} (h : ShwL K F H xs [d]) : ∃ v, xs = [v] ∧ Shw K F H v d := by
  cases h with
  | cons h1 h2 => cases h2; exact ⟨_, rfl, h1⟩
theorem shwL2 {K : PySem.W.Frag} {F H : Hp} {xs : List V} {d e : D} (h : ShwL K F H xs [d, e]) : ∃ v w, xs = [v, w] ∧ Shw K F H v d ∧ Shw K F H w e := by
  cases h with
  | cons h1 h2 => obtain ⟨w, rfl, h3⟩ := shwL1 h2; exact ⟨_, w, rfl, h1, h3⟩
theorem repL_bools {K : PySem.W.Frag} {F : Hp} : ∀ {ds : List D} {xs : List V} {bs : List Bool}, RepL K F xs ds → boolsD ds = some bs → xs = bs.map V.bl
  | [], _, bs, h, e => by cases h; cases e; rfl
  | d :: ds, _, bs, h, e => by
    cases h with
    | cons h1 h2 =>
      cases d <;> first | (cases e; done) | skip
      obtain ⟨bs', e1, e2⟩ := Option.map_eq_some_iff.mp e
      subst e2
      cases h1
      rw [repL_bools h2 e1]
      rfl
theorem repL_ints {K : PySem.W.Frag} {F : Hp} : ∀ {ds : List D} {xs : List V} {bs : List Int}, RepL K F xs ds → intsD ds = some bs → xs = bs.map V.int
  | [], _, bs, h, e => by cases h; cases e; rfl
  | d :: ds, _, bs, h, e => by
    cases h with
    | cons h1 h2 =>
      cases d <;> first | (cases e; done) | skip
      obtain ⟨bs', e1, e2⟩ := Option.map_eq_some_iff.mp e
      subst e2
      cases h1
      rw [repL_ints h2 e1]
      rfl
theorem cb_len : CallB X (fun xs H Q => ∃ x n, xs = [x] ∧ LenV X.K x H n ∧ Q (.int n) H) bLen := by
  intro σ env F H xs ds rv Q R s e q
  unfold bLen at e
  split at e
  · cases e
    obtain ⟨v, rfl, h⟩ := shwL1 s
    obtain ⟨a, us, rfl, h1, r1⟩ := h.lst R.le
    exact ⟨_, _, rfl, .inl ⟨us, SqL.of h1, r1.length.symm⟩, q _ F H R Stp.refl (Rep.int _)⟩
  · cases e
    obtain ⟨v, rfl, h⟩ := shwL1 s
    obtain ⟨a, us, rfl, h1, r1⟩ := h.tup R.le
    exact ⟨_, _, rfl, .inr ⟨us, sqT_sub h1 R.le, r1.length.symm⟩, q _ F H R Stp.refl (Rep.int _)⟩
  · split at e
    · rename_i hz
      cases e
      obtain ⟨v, rfl, h⟩ := shwL1 s
      have h' := h.rep R.le
      cases h'
      exact ⟨_, _, rfl, ⟨by rw [sizeLine_eq]; exact hz, rfl⟩, q _ F H R Stp.refl (Rep.int _)⟩
    · cases e
  · rename_i ds'
    cases e
    obtain ⟨v, rfl, h⟩ := shwL1 s
    have h' := h.rep R.le
    generalize hk : PyData.dict [(PyData.bool true, PyData.list ds')] = dd at h'
    cases h' <;> first | (cases hk; done) | skip
    · rename_i h4 h5
      cases hk
      exact ⟨_, _, rfl, .inl ⟨_, h4, h5.length.symm⟩, q _ F H R Stp.refl (Rep.int _)⟩
    · rename_i fs kvs h4 h5
      have hk' := PyData.dict.inj hk
      subst hk'
      generalize hz : PyData.bool true = zz at h5
      cases h5
      rename_i k _ _ _ _
      cases k <;> cases hz
  · cases e
theorem cb_abs : CallB X (fun xs H Q => ∃ i, xs = [.int i] ∧ Q (.int (if i < 0 then -i else i)) H) bAbs := by
  intro σ env F H xs ds rv Q R s e q
  unfold bAbs at e
  split at e
  · cases e
    obtain ⟨v, rfl, h⟩ := shwL1 s
    rw [shw_int h R.le]
    exact ⟨_, rfl, q _ F H R Stp.refl (Rep.int _)⟩
  · cases e
theorem cb_int : CallB X (fun xs H Q => (∃ i, xs = [.int i] ∧ Q (.int i) H) ∨ ∃ k, xs = [.bl k] ∧ Q (.int (if k then 1 else 0)) H) bInt := by
  intro σ env F H xs ds rv Q R s e q
  unfold bInt at e
  split at e
  · cases e
    obtain ⟨v, rfl, h⟩ := shwL1 s
    rw [shw_int h R.le]
    exact .inl ⟨_, rfl, q _ F H R Stp.refl (Rep.int _)⟩
  · cases e
    obtain ⟨v, rfl, h⟩ := shwL1 s
    have h' := h.rep R.le
    cases h'
    exact .inr ⟨_, rfl, q _ F H R Stp.refl (Rep.int _)⟩
  · cases e
theorem cb_max2 : CallB X (fun xs H Q => ∃ i j, xs = [.int i, .int j] ∧ Q (.int (if j > i then j else i)) H) bMax2 := by
  intro σ env F H xs ds rv Q R s e q
  unfold bMax2 at e
  split at e
  · cases e
    obtain ⟨v, w, rfl, h, h'⟩ := shwL2 s
    rw [shw_int h R.le, shw_int h' R.le]
    exact ⟨_, _, rfl, q _ F H R Stp.refl (Rep.int _)⟩
  · cases e
theorem cb_min2 : CallB X (fun xs H Q => ∃ i j, xs = [.int i, .int j] ∧ Q (.int (if j < i then j else i)) H) bMin2 := by
  intro σ env F H xs ds rv Q R s e q
  unfold bMin2 at e
  split at e
  · cases e
    obtain ⟨v, w, rfl, h, h'⟩ := shwL2 s
    rw [shw_int h R.le, shw_int h' R.le]
    exact ⟨_, _, rfl, q _ F H R Stp.refl (Rep.int _)⟩
  · cases e
theorem cb_all : CallB X (rAll X.K) bAll := by
  intro σ env F H xs ds rv Q R s e q
  unfold bAll at e
  split at e
  · obtain ⟨bs, e1, e2⟩ := Option.map_eq_some_iff.mp e
    subst e2
    obtain ⟨v, rfl, h⟩ := shwL1 s
    obtain ⟨a, us, rfl, h1, r1⟩ := h.lst R.le
    rw [repL_bools r1 e1] at h1
    exact ⟨a, bs, rfl, SqL.of h1, q _ F H R Stp.refl (Rep.bl _)⟩
  · cases e
theorem cb_any : CallB X (rAny X.K) bAny := by
  intro σ env F H xs ds rv Q R s e q
  unfold bAny at e
  split at e
  · obtain ⟨bs, e1, e2⟩ := Option.map_eq_some_iff.mp e
    subst e2
    obtain ⟨v, rfl, h⟩ := shwL1 s
    obtain ⟨a, us, rfl, h1, r1⟩ := h.lst R.le
    rw [repL_bools r1 e1] at h1
    exact ⟨a, bs, rfl, SqL.of h1, q _ F H R Stp.refl (Rep.bl _)⟩
  · cases e
theorem cb_sum : CallB X (rSum X.K) bSum := by
  intro σ env F H xs ds rv Q R s e q
  unfold bSum at e
  split at e
  · obtain ⟨bs, e1, e2⟩ := Option.map_eq_some_iff.mp e
    subst e2
    obtain ⟨v, rfl, h⟩ := shwL1 s
    obtain ⟨a, us, rfl, h1, r1⟩ := h.lst R.le
    rw [repL_ints r1 e1] at h1
    exact ⟨a, bs, rfl, SqL.of h1, q _ F H R Stp.refl (Rep.int _)⟩
  · cases e
theorem cb_list : CallB X (fun xs H Q => ∃ p ys, xs = [.ref p] ∧ (SqL X.K H p ys ∨ SqT X.K H p ys) ∧ ∀ l, H l = none → Q (.ref l) (upd H l (.lst ys))) bList := by
  intro σ env F H xs ds rv Q R s e q
  unfold bList at e
  split at e
  · cases e
    obtain ⟨v, rfl, h⟩ := shwL1 s
    obtain ⟨a, us, rfl, h1, r1⟩ := h.lst R.le
    exact ⟨a, us, rfl, .inl (SqL.of h1), fun p hp => new_lst R r1 hp q⟩
  · cases e
    obtain ⟨v, rfl, h⟩ := shwL1 s
    obtain ⟨a, us, rfl, h1, r1⟩ := h.tup R.le
    exact ⟨a, us, rfl, .inr (sqT_sub h1 R.le), fun p hp => new_lst R r1 hp q⟩
  · cases e
theorem cb_tup : CallB X (fun xs H Q => ∃ p ys, xs = [.ref p] ∧ ((SqL X.K H p ys ∧ ∀ l, H l = none → Q (.ref l) (upd H l (.tup ys))) ∨ (SqT X.K H p ys ∧ Q (.ref p) H))) bTup := by
  intro σ env F H xs ds rv Q R s e q
  unfold bTup at e
  split at e
  · cases e
    obtain ⟨v, rfl, h⟩ := shwL1 s
    obtain ⟨a, us, rfl, h1, r1⟩ := h.lst R.le
    exact ⟨a, us, rfl, .inl ⟨SqL.of h1, fun p hp => new_tup R r1 hp q⟩⟩
  · cases e
    obtain ⟨v, rfl, h⟩ := shwL1 s
    obtain ⟨a, us, rfl, h1, r1⟩ := h.tup R.le
    exact ⟨a, us, rfl, .inr ⟨sqT_sub h1 R.le, q _ F H R Stp.refl (Rep.tup h1 r1)⟩⟩
  · cases e
end

/-! ### sorted ints -/
def insI (k : Int) : List Int → List Int
  | [] => [k]
  | x :: xs => if k ≤ x then k :: x :: xs else x :: insI k xs
def sortI : List Int → List Int
  | [] => []
  | x :: xs => insI x (sortI xs)
theorem insI_perm (k : Int) : ∀ xs : List Int, (insI k xs).Perm (k :: xs)
  | [] => .refl _
  | x :: xs => by
    unfold insI
    split
    · exact .refl _
    · exact ((insI_perm k xs).cons x).trans (.swap k x xs)
theorem insI_sorted (k : Int) : ∀ {xs : List Int}, xs.Pairwise (· ≤ ·) → (insI k xs).Pairwise (· ≤ ·)
  | [], _ => by simp [insI]
  | x :: xs, h => by
    unfold insI
    obtain ⟨h1, h2⟩ := List.pairwise_cons.mp h
    split
    · rename_i hk
      refine List.pairwise_cons.mpr ⟨fun y hy => ?_, h⟩
      rcases List.mem_cons.mp hy with z | z
      · rw [z]; exact hk
      · exact Int.le_trans hk (h1 y z)
    · rename_i hk
      refine List.pairwise_cons.mpr ⟨fun y hy => ?_, insI_sorted k h2⟩
      rcases List.mem_cons.mp ((insI_perm k xs).mem_iff.mp hy) with z | z
      · rw [z]; omega
      · exact h1 y z
theorem sortI_perm : ∀ xs : List Int, (sortI xs).Perm xs
  | [] => .refl _
  | x :: xs => (insI_perm x _).trans ((sortI_perm xs).cons x)
theorem sortI_sorted : ∀ xs : List Int, (sortI xs).Pairwise (· ≤ ·)
  | [] => by simp [sortI]
  | x :: xs => insI_sorted x (sortI_sorted xs)
theorem sorted_uniq : ∀ {xs ys : List Int}, xs.Perm ys → xs.Pairwise (· ≤ ·) → ys.Pairwise (· ≤ ·) → xs = ys
  | [], ys, p, _, _ => (List.Perm.nil_eq p)
  | x :: xs, [], p, _, _ => absurd p.length_eq (by simp)
  | x :: xs, y :: ys, p, hx, hy => by
    obtain ⟨h1, h2⟩ := List.pairwise_cons.mp hx
    obtain ⟨h3, h4⟩ := List.pairwise_cons.mp hy
    have e : x = y := by
      have a : y ∈ x :: xs := p.mem_iff.mpr List.mem_cons_self
      have b : x ∈ y :: ys := p.mem_iff.mp List.mem_cons_self
      have c : x ≤ y := by
        rcases List.mem_cons.mp a with z | z
        · omega
        · exact h1 y z
      have d : y ≤ x := by
        rcases List.mem_cons.mp b with z | z
        · omega
        · exact h3 x z
      omega
    subst e
    rw [sorted_uniq (List.Perm.cons_inv p) h2 h4]
/-- in order, each once -/
def insU (k : Int) : List Int → List Int
  | [] => [k]
  | x :: xs => if k < x then k :: x :: xs else if k = x then x :: xs else x :: insU k xs
def sortU : List Int → List Int
  | [] => []
  | x :: xs => insU x (sortU xs)
theorem insU_mem (k : Int) : ∀ {xs : List Int} {y : Int}, y ∈ insU k xs ↔ y = k ∨ y ∈ xs
  | [], y => by simp [insU]
  | x :: xs, y => by
    unfold insU
    split
    · simp
    · split
      · rename_i h
        subst h
        constructor
        · exact fun h => .inr h
        · rintro (rfl | h)
          · exact List.mem_cons_self
          · exact h
      · rw [List.mem_cons, insU_mem k, List.mem_cons]
        constructor
        · rintro (h | h | h)
          · exact .inr (.inl h)
          · exact .inl h
          · exact .inr (.inr h)
        · rintro (h | h | h)
          · exact .inr (.inl h)
          · exact .inl h
          · exact .inr (.inr h)
theorem insU_sorted (k : Int) : ∀ {xs : List Int}, xs.Pairwise (· < ·) → (insU k xs).Pairwise (· < ·)
  | [], _ => by simp [insU]
  | x :: xs, h => by
    unfold insU
    obtain ⟨h1, h2⟩ := List.pairwise_cons.mp h
    split
    · rename_i hk
      refine List.pairwise_cons.mpr ⟨fun y hy => ?_, h⟩
      rcases List.mem_cons.mp hy with z | z
      · rw [z]; exact hk
      · exact Int.lt_trans hk (h1 y z)
    · split
      · exact h
      · rename_i hk hk'
        refine List.pairwise_cons.mpr ⟨fun y hy => ?_, insU_sorted k h2⟩
        rcases (insU_mem k).mp hy with z | z
        · rw [z]; omega
        · exact h1 y z
theorem sortU_mem : ∀ {xs : List Int} {y : Int}, y ∈ sortU xs ↔ y ∈ xs
  | [], y => by simp [sortU]
  | x :: xs, y => by
    unfold sortU
    rw [insU_mem, sortU_mem, List.mem_cons]
theorem sortU_sorted : ∀ xs : List Int, (sortU xs).Pairwise (· < ·)
  | [] => by simp [sortU]
  | x :: xs => insU_sorted x (sortU_sorted xs)
theorem lt_uniq : ∀ {xs ys : List Int}, (∀ k, k ∈ xs ↔ k ∈ ys) → xs.Pairwise (· < ·) → ys.Pairwise (· < ·) → xs = ys
  | [], [], _, _, _ => rfl
  | [], y :: ys, p, _, _ => absurd ((p y).mpr List.mem_cons_self) (by simp)
  | x :: xs, [], p, _, _ => absurd ((p x).mp List.mem_cons_self) (by simp)
  | x :: xs, y :: ys, p, hx, hy => by
    obtain ⟨h1, h2⟩ := List.pairwise_cons.mp hx
    obtain ⟨h3, h4⟩ := List.pairwise_cons.mp hy
    have e : x = y := by
      have a : y ∈ x :: xs := (p y).mpr List.mem_cons_self
      have b : x ∈ y :: ys := (p x).mp List.mem_cons_self
      rcases List.mem_cons.mp a with z | z
      · omega
      · rcases List.mem_cons.mp b with z' | z'
        · omega
        · have := h1 y z
          have := h3 x z'
          omega
    subst e
    refine congrArg _ (lt_uniq (fun k => ?_) h2 h4)
    constructor
    · intro hk
      rcases List.mem_cons.mp ((p k).mp (List.mem_cons_of_mem _ hk)) with z | z
      · have := h1 k hk
        omega
      · exact z
    · intro hk
      rcases List.mem_cons.mp ((p k).mpr (List.mem_cons_of_mem _ hk)) with z | z
      · have := h3 k hk
        omega
      · exact z
def bSort : List D → Option Rv
  | [.list ds] => (intsD ds).map fun ns => .fr (.lst ((sortI ns).map .int))
  | _ => none
theorem repL_ofInts {K : PySem.W.Frag} {F : Hp} : ∀ ns : List Int, RepL K F (ns.map V.int) (ns.map .int)
  | [] => .nil
  | n :: ns => .cons (.int n) (repL_ofInts ns)
theorem cb_sort {X : Cx} : CallB X (rSortedI X.K) bSort := by
  intro σ env F H xs ds rv Q R s e q
  unfold bSort at e
  split at e
  · obtain ⟨bs, e1, e2⟩ := Option.map_eq_some_iff.mp e
    subst e2
    obtain ⟨v, rfl, h⟩ := shwL1 s
    obtain ⟨a, us, rfl, h1, r1⟩ := h.lst R.le
    rw [repL_ints r1 e1] at h1
    refine ⟨a, bs, rfl, SqL.of h1, fun ns' p hp hs hn => ?_⟩
    have e : ns' = sortI bs := sorted_uniq (hp.trans (sortI_perm bs).symm) hs (sortI_sorted bs)
    subst e
    exact new_lst R (repL_ofInts _) hn q
  · cases e

/-! ### sorted(set(ints)) -/
def rSetI (K : PySem.W.Frag) (w : World) : List V → Hp → VK → Prop := fun xs H Q => ∃ (a : Addr) (ns : List Int), xs = [.ref a] ∧ (SqL K H a (ns.map V.int) ∨ SqT K H a (ns.map V.int)) ∧ ns.length ≤ 1000 ∧
  ∀ p c, H p = none → c ≤ ns.length → Q (.ref p) (upd H p (SetO w p (fun j => decide (j ∈ ns)) c))
theorem cr_setI {X : Cx} (hc : X.calm = true) : CallR X (.type "set") (rSetI X.K X.w) := by
  intro pins s σ H xs us Q I r h
  obtain ⟨a, ns, rfl, hq, hl, q⟩ := h
  rw [Vals.ref1 r]
  have fin : ∀ (h' : Heap) (tk c : Nat), SetR X.w h' s.heap.objs.size (fun j => decide (j ∈ ns)) c → c ≤ ns.length → (∀ b o, s.heap.get? b = some o → h'.get? b = some o) → EP X pins σ Q (.ref s.heap.objs.size) { s with heap := h', toks := tk } := fun h' tk c R1 hcn k =>
    ⟨.ref _, _, I.laid k (Nat.le_refl _) (setO_new R1), rfl, q _ c (I.hok.fresh (Nat.le_refl _)) hcn⟩
  rcases hq with hq | hq
  · obtain ⟨its, rv, pl, hz⟩ := I.list hq
    refine pl_callSet ns (I.ok.hd hc) pl.isList (ints_of_vals rv) (by unfold scanBound; omega) fun s2 hs2 => ?_
    obtain ⟨h', tk, c, rfl, R1, hcn, k⟩ := hs2
    exact fin h' tk c R1 hcn k
  · obtain ⟨its, rv, pl, hz⟩ := I.tuple hq
    exact call_set_tupI ns (I.ok.hd hc) (show s.heap.IsTuple a its.toArray from pl) (ints_of_vals rv) (by unfold scanBound; omega) fin
def sSetG : D → Option Rv
  | .list ds => (intsD ds).bind fun ns => if ns.length ≤ 63 then some (.fr (.lst ((sortU ns).map .int))) else none
  | .tuple ds => (intsD ds).bind fun ns => if ns.length ≤ 63 then some (.fr (.lst ((sortU ns).map .int))) else none
  | _ => none
def eSortSet (fa : Env → Res Rv) : Env → Res Rv := fun env => (fa env).bind fun r e1 => match (peek e1 r).bind sSetG with
  | some r => .ok r e1
  | none => .stuck
section
variable {X : Cx} {W : WX} {e : Expr} {fa : Env → Res Rv} {p p2 pos pos2 : Pos}
theorem pa_of1 {te : TE} (h : PE X e te) (he : starEach [e] X.env = (false, eval e X.env) :: starEach [] X.env) : PA X [e] (fun σ H Q => te σ H fun x H1 => Q [x] H1) := pa_cons h pa_nil he
theorem SE.sset (hc : X.calm = true) (hg : Gl X "sorted") (hm : X.mg "sorted" = none) (hg2 : Gl X "set") (hm2 : X.mg "set" = none) (ha : SE X W e fa)
    (he : starEach [e] X.env = (false, eval e X.env) :: starEach [] X.env := by rfl) (hpl : (backTo pos2 (starEach [] X.env)).any (·.1) = false := by rfl)
    (he2 : starEach [.Call (.Name "set" p2) [e] [] pos2] X.env = (false, eval (.Call (.Name "set" p2) [e] [] pos2) X.env) :: starEach [] X.env := by rfl) (hpl2 : (backTo pos (starEach [] X.env)).any (·.1) = false := by rfl) :
    SE X W (.Call (.Name "sorted" p) [.Call (.Name "set" p2) [e] [] pos2] [] pos) (eSortSet fa) := by
  refine PE.imp (pe_callB (cr_sortedSet hc) hg hm PyProof.Rows.boot_sorted (pa_of1 (pe_callTy (cr_setI hc) hg2 hm2 PyProof.Rows.boot_set (pa_of1 ha he) (by decide) (by decide) he hpl) he2) (by decide) (by decide) he2 hpl2) fun σ H Q h => ?_
  obtain ⟨env, F, R, p⟩ := h
  refine useE (P := EPost X.K W env F σ H Q) R p (fun z => z) (fun x e z => z) fun ra e1 x F1 H1 R1 S1 V1 p1 => ?_
  cases h1 : peek e1 ra with
  | none => rw [h1] at p1; exact p1.elim
  | some d =>
    rw [h1] at p1
    have p2 : EPost X.K W env F σ H Q (match sSetG d with | some r => .ok r e1 | none => .stuck) := p1
    have go : ∀ {ds : List D} {ns : List Int} {us : List V} {a : Addr}, x = .ref a → RepL X.K F1 us ds → intsD ds = some ns → ns.length ≤ 63 → (SqL X.K H1 a us ∨ SqT X.K H1 a us) → sSetG d = some (.fr (.lst ((sortU ns).map .int))) →
        ∃ (a : Addr) (ns : List Int), [x] = [.ref a] ∧ (SqL X.K H1 a (ns.map V.int) ∨ SqT X.K H1 a (ns.map V.int)) ∧ ns.length ≤ 1000 ∧ ∀ p c, H1 p = none → c ≤ ns.length →
          rSortedSet X.w [.ref p] (upd H1 p (SetO X.w p (fun j => decide (j ∈ ns)) c)) Q := fun {ds ns us a} ex r1 hi hl hq hd => by
      subst ex
      rw [repL_ints r1 hi] at hq
      rw [hd] at p2
      refine ⟨a, ns, rfl, hq, by omega, fun q c hq hcn => ⟨q, _, c, rfl, upd_same, by omega, fun ms l hs hm hlen hl' => ?_⟩⟩
      have em : ms = sortU ns := lt_uniq (fun k => by rw [hm k, decide_eq_true_eq, sortU_mem]) hs (sortU_sorted ns)
      subst em
      have R2 := R1.fresh (o := SetO X.w q (fun j => decide (j ∈ ns)) c) hq
      exact new_lst R2 (repL_ofInts _) hl' fun v F' H' R' S' V' => p2 v F' H' R' (S1.trans ((Stp.fresh hq).trans S')) (V'.older fun b hb => (S1.trans (Stp.fresh hq)).dom b hb)
    have sh := peek_top R1 V1 h1
    unfold sSetG at p2 go
    cases d with
    | list ds =>
      cases hi : intsD ds with
      | none => simp only [hi, Option.bind_none] at p2; exact p2.elim
      | some ns =>
        by_cases hl : ns.length ≤ 63
        · obtain ⟨a, us, ex, h2, r1⟩ := Shw.lst sh R1.le
          exact go ex r1 hi hl (.inl (SqL.of h2)) (by simp only [hi, Option.bind_some, if_pos hl])
        · simp only [hi, Option.bind_some, if_neg hl] at p2
          exact p2.elim
    | tuple ds =>
      cases hi : intsD ds with
      | none => simp only [hi, Option.bind_none] at p2; exact p2.elim
      | some ns =>
        by_cases hl : ns.length ≤ 63
        · obtain ⟨a, us, ex, h2, r1⟩ := Shw.tup sh R1.le
          exact go ex r1 hi hl (.inr (sqT_sub h2 R1.le)) (by simp only [hi, Option.bind_some, if_pos hl])
        · simp only [hi, Option.bind_some, if_neg hl] at p2
          exact p2.elim
    | none => exact p2.elim
    | bool b => exact p2.elim
    | int b => exact p2.elim
    | str b => exact p2.elim
    | dict b => exact p2.elim
end
end PL

set_option Elab.async false
set_option linter.all false
set_option maxRecDepth 100000
set_option maxHeartbeats 4000000
namespace PL
open PySem PySem.Spec PyProof.Rows L2

/-! ### one of two readings -/
def orE {α : Type} (f g : Env → Res α) : Env → Res α := fun env => match f env with
  | .stuck => g env
  | r => r
def orS (f g : Env → SRes) : Env → SRes := fun env => match f env with
  | .stuck => g env
  | r => r
def eStuck : Env → Res Rv := fun _ => .stuck
def sStuck : Env → SRes := fun _ => .stuck
section
variable {X : Cx} {W : WX}
theorem SE.or2 {e : Expr} {f g : Env → Res Rv} (h : SE X W e f) (h' : SE X W e g) : SE X W e (orE f g) := by
  refine ⟨fun pins s σ H Q I q => ?_⟩
  obtain ⟨env, F, R, p⟩ := q
  unfold orE at p
  cases ef : f env with
  | stuck => rw [ef] at p; exact h'.run pins s σ H Q I ⟨env, F, R, p⟩
  | ok r e => rw [ef] at p; exact h.run pins s σ H Q I ⟨env, F, R, by rw [ef]; exact p⟩
  | exc x e => rw [ef] at p; exact h.run pins s σ H Q I ⟨env, F, R, by rw [ef]; exact p⟩
theorem SS.or2 {e : Stmt} {f g : Env → SRes} (h : SS X W e f) (h' : SS X W e g) : SS X W e (orS f g) := by
  refine ⟨fun pins s σ H D I q => ?_⟩
  obtain ⟨env, F, R, p⟩ := q
  unfold orS at p
  cases ef : f env with
  | stuck => rw [ef] at p; exact h'.run pins s σ H D I ⟨env, F, R, p⟩
  | nx e => rw [ef] at p; exact h.run pins s σ H D I ⟨env, F, R, by rw [ef]; exact p⟩
  | bk e => rw [ef] at p; exact h.run pins s σ H D I ⟨env, F, R, by rw [ef]; exact p⟩
  | ct e => rw [ef] at p; exact h.run pins s σ H D I ⟨env, F, R, by rw [ef]; exact p⟩
  | rt r e => rw [ef] at p; exact h.run pins s σ H D I ⟨env, F, R, by rw [ef]; exact p⟩
  | exc x e => rw [ef] at p; exact h.run pins s σ H D I ⟨env, F, R, by rw [ef]; exact p⟩
/-- what is never reached -/
theorem SE.stuck {e : Expr} : SE X W e eStuck := ⟨fun pins s σ H Q I ⟨_, _, _, p⟩ => p.elim⟩
theorem SS.stuck {e : Stmt} : SS X W e sStuck := ⟨fun pins s σ H D I ⟨_, _, _, p⟩ => p.elim⟩
theorem SSs.stuck {e : List Stmt} : SSs X W e sStuck := ⟨fun pins s σ H D I ⟨_, _, _, p⟩ => p.elim⟩
end

/-! ### isinstance -/
inductive Ty where
  | non | bl | int | str | lst | tup | dct
  deriving DecidableEq
def Ty.nm : Ty → String
  | .non => "NoneType"
  | .bl => "bool"
  | .int => "int"
  | .str => "str"
  | .lst => "list"
  | .tup => "tuple"
  | .dct => "dict"
def tyD : D → Option Ty
  | .none => some .non
  | .bool _ => some .bl
  | .int _ => some .int
  | .str _ => some .str
  | .list _ => some .lst
  | .tuple _ => some .tup
  | .dict [] => some .dct
  | .dict ((.int _, _) :: _) => some .dct
  | .dict ((.str _, _) :: _) => some .dct
  | .dict _ => none
def subT : Ty → Ty → Bool
  | .bl, .int => true
  | .non, .non => true
  | .bl, .bl => true
  | .int, .int => true
  | .str, .str => true
  | .lst, .lst => true
  | .tup, .tup => true
  | .dct, .dct => true
  | _, _ => false
theorem kit_sub : ∀ a b : Ty, b ≠ .non → kitB a.nm b.nm = some (subT a b) := by
  intro a b h
  cases a <;> cases b <;> first | (exact absurd rfl h) | decide +kernel
theorem kit_any {K : PySem.W.Frag} (a : Ty) : ∀ cs : List Ty, .non ∉ cs → PySem.W.kitAny K (.type a.nm) (cs.map fun c => .type c.nm) = some (cs.any (subT a))
  | [], _ => kitAny_nil
  | c :: cs, h => by
    have h1 := kit_sub a c fun z => h (by rw [z]; exact List.mem_cons_self)
    refine kitAny_cons (kit_ty h1) (fun hb => ?_) fun hb => ?_
    · rw [List.any_cons, hb, Bool.false_or]
      exact kit_any a cs fun z => h (List.mem_cons_of_mem _ z)
    · rw [List.any_cons, hb, Bool.true_or]
theorem ty_rep {K : PySem.W.Frag} {H : Hp} {v : V} {d : D} {t : Ty} (h : Rep K H v d) (e : tyD d = some t) : TyX K H v (.type t.nm) := by
  cases h with
  | non => cases e; exact .base .non
  | bl b => cases e; exact .base (.bl b)
  | int i => cases e; exact .base (.int i)
  | str x => cases e; exact .base (.str x)
  | lst h1 h2 => cases e; exact .base (.lst h1)
  | tup h1 h2 =>
    cases e
    rcases h1 with (h1 | ⟨o, h1⟩) | ⟨o, its, n, h1, h3, _⟩
    · exact .base (.tup h1)
    · exact .fTuple h1
    · exact .kTuple h1 h3
  | scr h1 h2 => cases e
  | ins h1 h2 => cases e
  | dct h1 h2 =>
    cases h2 with
    | nil => cases e; exact .base (.dK h1)
    | cons h3 h4 =>
      rename_i k _ _ _ _
      cases k <;> (cases e; exact .base (.dK h1))
def eIsi (cs : List Ty) (fa : Env → Res Rv) : Env → Res Rv := fun env => (fa env).bind fun ra e1 => match (peek e1 ra).bind tyD with
  | some t => .ok (.d (.bool (cs.any (subT t)))) e1
  | none => .stuck
section
variable {X : Cx} {W : WX} {e c : Expr} {fa : Env → Res Rv} {p p2 pos : Pos}
/-- isinstance(e, T) -/
theorem SE.isi (t : Ty) (ht : t ≠ .non) {x : Str} (hg : Gl X "isinstance") (hm : X.mg "isinstance" = none) (ha : SE X W e fa) (hg2 : Gl X x) (hm2 : X.mg x = none) (hv2 : bootBuiltins x = some (.type t.nm)) (hn2 : x ≠ "__name__" := by decide) (hd2 : (x == ("__debug__" : Str)) = false := by decide)
    (he : starEach [e, .Name x p2] X.env = (false, eval e X.env) :: starEach [.Name x p2] X.env := by rfl) (he2 : starEach [.Name x p2] X.env = (false, eval (.Name x p2) X.env) :: starEach [] X.env := by rfl)
    (hpl : (backTo pos (starEach [.Name x p2] X.env)).any (·.1) = false := by rfl) : SE X W (.Call (.Name "isinstance" p) [e, .Name x p2] [] pos) (eIsi [t] fa) := by
  refine PE.imp (pe_callB call_isi hg hm PyProof.Rows.boot_isinstance (pa_cons ha (pa_cons (pe_bltn (v := .ty t.nm) hg2 hm2 hv2 rfl hn2 hd2) pa_nil he2) he) (by decide) (by decide) he hpl) fun σ H Q h => ?_
  obtain ⟨env, F, R, p⟩ := h
  refine useE (P := EPost X.K W env F σ H Q) R p (fun z => z) (fun x e z => z) fun ra e1 x F1 H1 R1 S1 V1 p1 => ?_
  cases h1 : (peek e1 ra).bind tyD with
  | none => rw [h1] at p1; exact p1.elim
  | some ty =>
    rw [h1] at p1
    obtain ⟨d, h2, h3⟩ := Option.bind_eq_some_iff.mp h1
    refine ⟨x, .ty t.nm, _, _, _, rfl, .ty _, ty_rep (peek_rep R1 V1 h2) h3, kit_ty (kit_sub ty t ht), ?_⟩
    have := p1.sc R1 S1 (sc_bl _)
    rw [List.any_cons, List.any_nil, Bool.or_false] at this
    exact this
/-- isinstance(e, (T, U)) -/
theorem SE.isi2 (t u : Ty) (ht : t ≠ .non) (hu : u ≠ .non) {x y : Str} {p3 pt : Pos} {k : Nat} (hg : Gl X "isinstance") (hm : X.mg "isinstance" = none) (ha : SE X W e fa) (hg2 : Gl X x) (hm2 : X.mg x = none) (hv2 : bootBuiltins x = some (.type t.nm))
    (hg3 : Gl X y) (hm3 : X.mg y = none) (hv3 : bootBuiltins y = some (.type u.nm)) (hn2 : x ≠ "__name__" := by decide) (hd2 : (x == ("__debug__" : Str)) = false := by decide) (hn3 : y ≠ "__name__" := by decide) (hd3 : (y == ("__debug__" : Str)) = false := by decide)
    (h1 : starEach [.Name x p2, .Name y p3] X.env = (false, eval (.Name x p2) X.env) :: starEach [.Name y p3] X.env := by rfl) (h2 : starEach [.Name y p3] X.env = (false, eval (.Name y p3) X.env) :: starEach [] X.env := by rfl)
    (he : starEach [e, .Tuple [.Name x p2, .Name y p3] k pt] X.env = (false, eval e X.env) :: starEach [.Tuple [.Name x p2, .Name y p3] k pt] X.env := by rfl)
    (he2 : starEach [.Tuple [.Name x p2, .Name y p3] k pt] X.env = (false, eval (.Tuple [.Name x p2, .Name y p3] k pt) X.env) :: starEach [] X.env := by rfl)
    (hpl : (backTo pos (starEach [.Tuple [.Name x p2, .Name y p3] k pt] X.env)).any (·.1) = false := by rfl) : SE X W (.Call (.Name "isinstance" p) [e, .Tuple [.Name x p2, .Name y p3] k pt] [] pos) (eIsi [t, u] fa) := by
  refine PE.imp (pe_callB call_isiT hg hm PyProof.Rows.boot_isinstance (pa_cons ha (pa_cons (pe_tup (pa_cons (pe_bltn (v := .ty t.nm) hg2 hm2 hv2 rfl hn2 hd2) (pa_cons (pe_bltn (v := .ty u.nm) hg3 hm3 hv3 rfl hn3 hd3) pa_nil h2) h1)) pa_nil he2) he) (by decide) (by decide) he hpl) fun σ H Q h => ?_
  obtain ⟨env, F, R, p⟩ := h
  refine useE (P := EPost X.K W env F σ H Q) R p (fun z => z) (fun x e z => z) fun ra e1 x F1 H1 R1 S1 V1 p1 => ?_
  cases h1 : (peek e1 ra).bind tyD with
  | none => rw [h1] at p1; exact p1.elim
  | some ty =>
    rw [h1] at p1
    obtain ⟨d, h2, h3⟩ := Option.bind_eq_some_iff.mp h1
    refine ⟨by show 2 ≤ sizeLine; decide, fun q hq => ⟨x, q, [.ty t.nm, .ty u.nm], .type ty.nm, [.type t.nm, .type u.nm], _, rfl, upd_same, .cons (.ty _) (.cons (.ty _) .nil), ?_, kit_any ty [t, u] (fun z => ?_), p1.sc (R1.fresh hq) (S1.trans (Stp.fresh hq)) (sc_bl _)⟩⟩
    · exact ty_rep ((peek_rep R1 V1 h2).mono fun a o ha => by rw [upd_ne (ne_of_none ha hq)]; exact ha) h3
    · simp only [List.mem_cons, List.not_mem_nil, or_false] at z
      rcases z with z | z
      · exact ht z.symm
      · exact hu z.symm
end

/-! ### index -/
def idxD (d : D) : List D → Option Nat
  | [] => none
  | x :: xs => if PyData.eqv x d then some 0 else (idxD d xs).map (· + 1)
theorem idxD_ok {d : D} : ∀ {ds : List D} {j : Nat}, idxD d ds = some j → (∃ z, ds[j]? = some z ∧ PyData.eqv z d = true) ∧ ∀ (m : Nat) z, m < j → ds[m]? = some z → PyData.eqv z d = false
  | [], _, h => by cases h
  | x :: xs, j, h => by
    unfold idxD at h
    split at h
    · rename_i hx
      cases h
      exact ⟨⟨x, rfl, hx⟩, fun m z hm => absurd hm (Nat.not_lt_zero _)⟩
    · rename_i hx
      obtain ⟨i, h1, h2⟩ := Option.map_eq_some_iff.mp h
      subst h2
      obtain ⟨⟨z, h3, h4⟩, h5⟩ := idxD_ok h1
      refine ⟨⟨z, by simpa using h3, h4⟩, fun m y hm hy => ?_⟩
      cases m with
      | zero =>
        simp at hy
        subst hy
        simpa using hx
      | succ m => exact h5 m y (by omega) (by simpa using hy)
def lstD : D → Option (List D)
  | .list ds => some ds
  | _ => none
def eIdx (fo fe : Env → Res Rv) : Env → Res Rv := fun env => (fo env).bind fun ro e1 => match (peek e1 ro).bind lstD with
  | none => .stuck
  | some _ => (fe e1).bind fun re e2 => match peek e2 ro, peek e2 re with
    | some (.list ds), some d => if SeqAt.shaped (.list ds) && SeqAt.shaped d then (match idxD d ds with
      | some j => .ok (.d (.int (j : Nat))) e2
      | none => .stuck) else .stuck
    | _, _ => .stuck
section
variable {X : Cx} {W : WX} {o e : Expr} {fo fe : Env → Res Rv} {apos cpos : Pos}
theorem SE.index (hu : X.A.units + 65 < cLine) (ho : SE X W o fo) (he : SE X W e fe)
    (hbase : attributeBase o "index" X.env (eval o X.env) = eval o X.env := by rfl)
    (hfew : ((backTo cpos (starEach [e] X.env)).all (fun x => !x.1) && (backToKw cpos (keywordEach [] X.env)).all (fun x => x.1.isSome)
      && decide (([e] : List Expr).length + ([] : List Keyword).length + (if ([] : List Keyword).isEmpty then 0 else 1) < 30)) = true := by rfl)
    (hline : (apos.endLine == cpos.line) = true := by rfl) (hs : starEach [e] X.env = (false, eval e X.env) :: starEach [] X.env := by rfl) (hplain : (backTo cpos (starEach [] X.env)).any (·.1) = false := by rfl) :
    SE X W (.Call (.Attribute o "index" apos) [e] [] cpos) (eIdx fo fe) := by
  refine PE.imp (pe_bm PySem.F.plainAttrs_list PySem.F.slot_list_index PySem.F.type_list_index (mt_indexD hu) ho (pa_cons he pa_nil hs) hbase hfew hline hs hplain) fun σ H Q h => ?_
  obtain ⟨env, F, R, p⟩ := h
  unfold eIdx at p
  refine useE (P := EPost X.K W env F σ H Q) R p (fun z => z) (fun x e z => z) fun ro e1 x F1 H1 R1 S1 V1 p1 => ?_
  cases h0 : (peek e1 ro).bind lstD with
  | none => rw [h0] at p1; exact p1.elim
  | some ds0 =>
    rw [h0] at p1
    have p1 : EPost X.K W env F σ H Q ((fe e1).bind fun re e2 => match peek e2 ro, peek e2 re with
      | some (.list ds), some d => if SeqAt.shaped (.list ds) && SeqAt.shaped d then (match idxD d ds with
        | some j => .ok (.d (.int (j : Nat))) e2
        | none => .stuck) else .stuck
      | _, _ => .stuck) := p1
    have isl : ∀ {e2 F2 H2}, Rel X.K e2 F2 σ H2 → Stp e1 σ F1 H1 e2 σ F2 H2 → ∀ {ds}, peek e2 ro = some (.list ds) → ∃ a xs, x = .ref a ∧ H2 a = some (.lst xs) ∧ RepL X.K F2 xs ds := fun {e2 F2 H2} R2 S2 {ds} hp => by
      obtain ⟨a, xs, h1, h2, h3⟩ := (peek_items R2 (V1.wait R1 S2) hp).1 ds rfl
      exact ⟨a, xs, h1, h2, h3⟩
    -- the object is a list now, too
    have ty : tyV X.K "list" x H1 := by
      obtain ⟨d, h1, h2⟩ := Option.bind_eq_some_iff.mp h0
      cases d <;> first | (cases h2; done) | skip
      obtain ⟨a, xs, rfl, h3, h4⟩ := (peek_items R1 V1 h1).1 _ rfl
      exact .inl ⟨rfl, xs, SqL.of h3⟩
    have fin : ∀ re e2 y F2 H2, Rel X.K e2 F2 σ H2 → Stp e1 σ F1 H1 e2 σ F2 H2 → RvRel X.K H1 F2 H2 e2 σ re y → EPost X.K W env F σ H Q (match peek e2 ro, peek e2 re with
      | some (.list ds), some d => if SeqAt.shaped (.list ds) && SeqAt.shaped d then (match idxD d ds with
        | some j => .ok (.d (.int (j : Nat))) e2
        | none => .stuck) else .stuck
      | _, _ => .stuck) → rIndexD X.K x [y] H2 Q := fun re e2 y F2 H2 R2 S2 V2 p2 => by
      cases h1 : peek e2 ro with
      | none => rw [h1] at p2; exact p2.elim
      | some d =>
        rw [h1] at p2
        cases d <;> first | exact p2.elim | skip
        rename_i ds
        cases h2 : peek e2 re with
        | none => rw [h2] at p2; exact p2.elim
        | some d =>
          rw [h2] at p2
          dsimp only at p2
          split at p2
          · rename_i hsh
            simp only [Bool.and_eq_true] at hsh
            cases hj : idxD d ds with
            | none => rw [hj] at p2; exact p2.elim
            | some j =>
              rw [hj] at p2
              obtain ⟨a, xs, rfl, h3, h4⟩ := isl R2 S2 h1
              obtain ⟨⟨z, h5, h6⟩, h7⟩ := idxD_ok hj
              refine ⟨a, y, d, ds, j, z, rfl, rfl, ?_, ?_, hsh.1, hsh.2, h5, h6, fun m z' hm hz => h7 m z' hm hz, p2.sc R2 (S1.trans S2) (sc_int _)⟩
              · exact Rep.dp (Rep.lst h3 (h4.mono R2.le)) (SeqAt.canLay_of_shaped hsh.1)
              · exact Rep.dp (peek_rep R2 V2 h2) (SeqAt.canLay_of_shaped hsh.2)
          · exact p2.elim
    have run2 : tE X.K W fe σ H1 fun y H2 => rIndexD X.K x [y] H2 Q :=
      useE (P := EPost X.K W env F σ H Q) R1 p1 (fun z => z) (fun x e z c d F' H' R' S' X' => z c d F' H' R' (S1.trans S') X') fun re e2 y F2 H2 R2 S2 V2 p2 => fin re e2 y F2 H2 R2 S2 V2 p2
    exact ⟨ty, run2⟩
end

/-! ### slices -/
def cutD (ds : List D) (lo hi : Option Int) : List D := (ds.drop (HT.sIx ds.length 0 lo)).take (HT.sIx ds.length ds.length hi - HT.sIx ds.length 0 lo)
def ePart (f : Option (Env → Res Rv)) : Env → Res (Option Int) := fun env => match f with
  | none => .ok none env
  | some f => (f env).bind fun r e => match peek e r with
    | some (.int i) => .ok (some i) e
    | _ => .stuck
def cutG (lo hi : Option Int) : D → Option Rv
  | .list ds => some (.fr (.lst (cutD ds lo hi)))
  | .tuple ds => some (.d (.tuple (cutD ds lo hi)))
  | .str z => if z.length ≤ 16777216 then some (.d (.str (cutS z lo hi))) else none
  | _ => none
def eSl (fa : Env → Res Rv) (lo hi : Option (Env → Res Rv)) : Env → Res Rv := fun env => (fa env).bind fun ra e1 => (ePart lo e1).bind fun l e2 => (ePart hi e2).bind fun h e3 => match (peek e3 ra).bind (cutG l h) with
  | some r => .ok r e3
  | none => .stuck
def tP (K : PySem.W.Frag) (W : WX) : Option (Env → Res Rv) → TO
  | none => tNoPart
  | some f => tPart (tE K W f)
theorem cut_rep {K : PySem.W.Frag} {F : Hp} {xs : List V} {ds : List D} (h : RepL K F xs ds) (lo hi : Option Int) : RepL K F (cutV xs lo hi) (cutD ds lo hi) := by
  unfold cutV cutD
  rw [h.length]
  exact (h.drop _).take _
section
variable {X : Cx} {W : WX} {a : Expr} {fa : Env → Res Rv} {pos p2 : Pos}
/-- a slice's part -/
def SP1 (X : Cx) (W : WX) (e : Option Expr) (f : Option (Env → Res Rv)) : Prop := PO X e (tP X.K W f)
theorem SP1.none : SP1 X W .none .none := po_none
theorem SP1.some {e : Expr} {f : Env → Res Rv} (h : SE X W e f) : SP1 X W (some e) (some f) := po_some h
theorem use_part {K : PySem.W.Frag} {env : Env} {F H : Hp} {σ : St} {α : Type} {lo : Option (Env → Res Rv)} {k : Option Int → Env → Res α} {P : Res α → Prop} {G : Option Int → Hp → Prop} (R : Rel K env F σ H) (p : P ((ePart lo env).bind k)) (h0 : P .stuck → False)
    (hx : ∀ x e, P (.exc x e) → ∀ cls d F' H', Rel K e F' σ H' → Stp env σ F H e σ F' H' → XRel K F' x cls d → W cls d σ H')
    (fin : ∀ i e1 F1 H1, Rel K e1 F1 σ H1 → Stp env σ F H e1 σ F1 H1 → P (k i e1) → G i H1) : tP K W lo σ H G := by
  cases lo with
  | none => exact fin .none env F H R Stp.refl p
  | some f =>
    have p' : P ((f env).bind fun r e => (match peek e r with | Option.some (PyData.int i) => (Res.ok (Option.some i) e : Res (Option Int)) | _ => Res.stuck).bind k) := by
      unfold ePart at p
      dsimp only at p
      cases ea : f env with
      | stuck => rw [ea] at p; exact p
      | exc x e1 => rw [ea] at p; exact p
      | ok r e1 => rw [ea] at p; exact p
    refine useE (P := P) R p' h0 hx fun ra e1 x F1 H1 R1 S1 V1 p1 => ?_
    cases h1 : peek e1 ra with
    | none => rw [h1] at p1; exact (h0 p1).elim
    | some d =>
      rw [h1] at p1
      cases d <;> first | exact (h0 p1).elim | skip
      rename_i i
      exact ⟨i, rep_int (peek_rep R1 V1 h1), fin _ e1 F1 H1 R1 S1 p1⟩
theorem SE.slice {lo hi : Option Expr} {fl fh : Option (Env → Res Rv)} (sa : SE X W a fa) (sl : SP1 X W lo fl) (sh : SP1 X W hi fh) : SE X W (.Subscript a (.Slice lo hi none p2) pos) (eSl fa fl fh) := by
  refine PE.imp (pe_slice (SlR.or sl_list (SlR.or sl_tupA sl_str)) sa sl sh) fun σ H Q h => ?_
  obtain ⟨env, F, R, p⟩ := h
  unfold eSl at p
  refine useE (P := EPost X.K W env F σ H Q) R p (fun z => z) (fun x e z => z) fun ra e1 x F1 H1 R1 S1 V1 p1 => ?_
  refine use_part (P := EPost X.K W env F σ H Q) R1 p1 (fun z => z) (fun x e z c d F' H' R' S' X' => z c d F' H' R' (S1.trans S') X') fun l e2 F2 H2 R2 S2 p2 => ?_
  refine use_part (P := EPost X.K W env F σ H Q) R2 p2 (fun z => z) (fun x e z c d F' H' R' S' X' => z c d F' H' R' ((S1.trans S2).trans S') X') fun u e3 F3 H3 R3 S3 p3 => ?_
  have V3 := V1.wait R1 (S2.trans S3)
  have S := (S1.trans S2).trans S3
  cases h1 : peek e3 ra with
  | none => rw [h1] at p3; exact p3.elim
  | some d =>
    rw [h1] at p3
    have sw : Shw X.K F3 H3 x d := peek_top R3 V3 h1
    have p4 : EPost X.K W env F σ H Q (match cutG l u d with | some r => .ok r e3 | none => .stuck) := p3
    cases d <;> first | exact p4.elim | skip
    · rename_i z
      unfold cutG at p4
      dsimp only at p4
      split at p4
      · rename_i hc
        split at hc
        · rename_i hz
          cases hc
          have h' := sw.rep R3.le
          cases h'
          exact .inr (.inr ⟨z, rfl, by rw [sizeLine_eq]; exact hz, p4.sc R3 S (sc_str _)⟩)
        · cases hc
      · exact p4.elim
    · rename_i ds
      obtain ⟨b, us, rfl, h2, r2⟩ := sw.lst R3.le
      refine .inl ⟨b, us, rfl, SqL.of h2, fun q hq => ?_⟩
      exact EPost.list p4 R3 S (cut_rep r2 l u) q hq
    · rename_i ds
      obtain ⟨b, us, rfl, h2, r2⟩ := sw.tup R3.le
      refine .inr (.inl ⟨b, us, rfl, sqT_sub h2 R3.le, fun hw => ?_, fun hw q hq => EPost.tup p4 R3 S (cut_rep r2 l u) q hq⟩)
      have e : cutD ds l u = ds := by
        unfold cutD
        rw [← r2.length, hw.1, hw.2, List.drop_zero, Nat.sub_zero, r2.length, List.take_length]
      have p5 : EPost X.K W env F σ H Q (.ok (.d (.tuple (cutD ds l u))) e3) := p4
      rw [e] at p5
      exact p5.rep R3 S (Rep.tup h2 r2)
end
end PL

set_option Elab.async false
set_option linter.all false
set_option maxRecDepth 100000
set_option maxHeartbeats 4000000
/-! a list turned about by a step that is told by any expression -/
namespace L2
open PySem PySem.Spec PyProof.Rows
section
variable {X : Cx}
def plRev (K : PySem.W.Frag) (te ts : TE) : TE := fun σ H Q => te σ H fun x H1 => ts σ H1 fun y H2 => ∃ a xs, x = .ref a ∧ y = .int (-1) ∧ SqL K H2 a xs ∧ ∀ p, H2 p = none → Q (.ref p) (upd H2 p (.lst xs.reverse))
theorem pl_rev {e st : Expr} {te ts : TE} {p3 pos : Pos} (he : PE X e te) (hs : PE X st ts)
    (ht : ∀ u v, subscripted (.Slice none none (some st) p3) false u v = operate [u, v] (getItem u v) := by intro _ _; with_unfolding_all rfl) : PE X (.Subscript e (.Slice none none (some st) p3) pos) (plRev X.K te ts) := by
  refine ⟨fun pins s σ H Q I h => ?_⟩
  refine Subscript_ (thn (he.run pins s σ H _ I h) fun v s1 ⟨x, H1, I1, r1, q1⟩ => ?_)
  refine wpAny_Slice (thn (po_none.run pins s1 σ H1 (fun o H2 => o = none ∧ H2 = H1) I1 ⟨rfl, rfl⟩) fun vl s2 ⟨l, H2, I2, pl, el, e2⟩ => ?_)
  subst el e2
  refine thn (po_none.run pins s2 σ H2 (fun o H3 => o = none ∧ H3 = H2) I2 ⟨rfl, rfl⟩) fun vu s3 ⟨u, H3, I3, pu, eu, e3⟩ => ?_
  subst eu e3
  rw [evalPart_some]
  refine thn (hs.run pins s3 σ H3 _ I3 q1) fun vs s4 ⟨y, H4, I4, r4, a, xs, ex, ey, hx, q⟩ => ?_
  subst ex ey
  cases r1
  obtain ⟨t, rfl⟩ := r4
  have I5 : Inv X pins σ H4 { s4 with heap := s4.heap.push { cls := .type "slice", data := .fields #[vl, vu, .int (-1) t] } } := I4.kept (t' := s4.toks) fun b ob q => Heap.get?_push_of_some _ q
  obtain ⟨its, r, ht', hz⟩ := I5.list hx
  have hlen := r.length
  show wpAny (model X.prog X.w) X.A (subscriptTail e (.Slice none none (some st) p3) (.ref a) (.ref s4.heap.objs.size)) (EP X pins σ Q) X.xe { s4 with heap := s4.heap.push { cls := .type "slice", data := .fields #[vl, vu, .int (-1) t] } }
  refine tail_any (ops := [.ref a, .ref s4.heap.objs.size]) ht'.isList.typeIs (PySem.slot_list_getitem.lookup) ?_ (ht _ _)
  refine wpAny_getItem_list_slice ht'.isList (Heap.IsSliceOf.new _ vl vu (.int (-1) t)) pl pu (.int (-1) t) (by decide) ?_ (by rw [List.size_toArray]; omega)
  rw [PySem.W.krv_pick]
  refine ⟨.ref _, _, I5.laid (t' := s4.toks) (o := .lst xs.reverse) (fun b ob q => Heap.get?_push_of_some _ q) (Nat.le_refl _) ?_, rfl, q _ (I5.hok.fresh (Nat.le_refl _))⟩
  exact ⟨by rw [List.length_reverse]; exact hz, _, 0, r.reverse, Heap.get?_push_size _ rfl⟩
end
end L2
namespace PL
open PySem PySem.Spec PyProof.Rows L2
/-! ### xs[::step], step -1 -/
def eRev (fa fs : Env → Res Rv) : Env → Res Rv := fun env => (fa env).bind fun ra e1 => (fs e1).bind fun rs e2 => match peek e2 ra, peek e2 rs with
  | some (.list ds), some (.int i) => if i = -1 then .ok (.fr (.lst ds.reverse)) e2 else .stuck
  | _, _ => .stuck
section
variable {X : Cx} {W : WX} {a b c : Expr} {fa fb fc : Env → Res Rv} {pos p3 : Pos}
theorem SE.rev (sa : SE X W a fa) (sb : SE X W b fb) (ht : ∀ u v, subscripted (.Slice none none (some b) p3) false u v = operate [u, v] (getItem u v) := by intro _ _; with_unfolding_all rfl) :
    SE X W (.Subscript a (.Slice none none (some b) p3) pos) (eRev fa fb) := by
  refine PE.imp (pl_rev sa sb ht) fun σ H Q h => ?_
  obtain ⟨env, F, R, p⟩ := h
  refine use2 R p fun ra rb e2 x y F2 H2 R2 S2 V1 V2 p2 => ?_
  cases h1 : peek e2 ra with
  | none => rw [h1] at p2; exact p2.elim
  | some dx =>
    rw [h1] at p2
    cases dx <;> first | exact p2.elim | skip
    rename_i ds
    cases h2 : peek e2 rb with
    | none => rw [h2] at p2; exact p2.elim
    | some dy =>
      rw [h2] at p2
      cases dy <;> first | exact p2.elim | skip
      rename_i i
      dsimp only at p2
      split at p2
      · rename_i hi
        subst hi
        obtain ⟨q, us, rfl, h3, r3⟩ := Shw.lst (peek_top R2 V1 h1) R2.le
        exact ⟨q, us, rfl, rep_int (peek_rep R2 V2 h2), SqL.of h3, fun p hp => EPost.list p2 R2 S2 r3.reverse p hp⟩
      · exact p2.elim

/-! ### - a, a ** b -/
def gNeg : D → Option D
  | .int i => some (.int (-i))
  | _ => none
theorem SE.neg (sa : SE X W a fa) : SE X W (.UnaryOp .USub a pos) (eUn gNeg fa) := by
  refine PE.imp (pe_un un_neg sa) fun σ H Q h => ?_
  obtain ⟨env, F, R, p⟩ := h
  refine use1 R p fun ra e1 x F1 H1 R1 S1 V1 p1 => ?_
  cases h1 : peek e1 ra with
  | none => rw [h1] at p1; exact p1.elim
  | some d =>
    rw [h1] at p1
    cases d <;> first | exact p1.elim | skip
    exact ⟨_, rep_int (peek_rep R1 V1 h1), p1.sc R1 S1 (sc_int _)⟩
def gPow : D → D → Option D := gI fun i j => if 0 ≤ j ∧ j ≤ 1000000 ∧ i.natAbs < 18446744073709551616 then some (.int (i ^ j.toNat)) else none
theorem o2_pow : Op2 X (rI CPow fun i j => .int (i ^ j.toNat)) gPow := Op2.ints fun i j d e => by
  split at e
  · rename_i h
    cases e
    have e64 : (2 : Nat) ^ 64 = 18446744073709551616 := by decide
    exact ⟨⟨h.1, h.2.1, by rw [e64]; exact h.2.2⟩, sc_int _⟩
  · cases e

/-! ### a op b op c -/
def eChain (g g' : D → D → Option D) (fa fb fc : Env → Res Rv) : Env → Res Rv := fun env => (fa env).bind fun ra e1 => (fb e1).bind fun rb e2 => match (peek e2 ra).bind fun x => (peek e2 rb).bind fun y => g x y with
  | some (.bool true) => (fc e2).bind fun rc e3 => (match (peek e3 rb).bind fun x => (peek e3 rc).bind fun y => g' x y with
    | some d => .ok (.d d) e3
    | none => .stuck)
  | some (.bool false) => .ok (.d (.bool false)) e2
  | _ => .stuck
theorem use_chain {r r' : R2} {g g' : D → D → Option D} (o : Op2 X r g) (o' : Op2 X r' g') {σ : St} {H : Hp} {Q : VK} (h : tE X.K W (eChain g g' fa fb fc) σ H Q) : tChain r r' (tE X.K W fa) (tE X.K W fb) (tE X.K W fc) σ H Q := by
  obtain ⟨env, F, R, p⟩ := h
  refine use2 R p fun ra rb e2 x y F2 H2 R2 S2 V1 V2 p2 => ?_
  cases h3 : (peek e2 ra).bind fun x => (peek e2 rb).bind fun y => g x y with
  | none => rw [h3] at p2; exact p2.elim
  | some d =>
    rw [h3] at p2
    obtain ⟨dx, h1, h4⟩ := Option.bind_eq_some_iff.mp h3
    obtain ⟨dy, h2, h5⟩ := Option.bind_eq_some_iff.mp h4
    refine o x y dx dy d H2 _ (peek_rep R2 V1 h1) (peek_rep R2 V2 h2) h5 fun v s => ?_
    cases d <;> first | exact p2.elim | skip
    rename_i k
    have hv := s X.K F2
    cases hv
    refine ⟨k, rfl, ?_⟩
    cases k with
    | false => rw [if_neg Bool.false_ne_true]; exact p2.sc R2 S2 (sc_bl _)
    | true =>
      rw [if_pos rfl]
      refine useE (P := EPost X.K W env F σ H Q) R2 p2 (fun z => z) (fun x e z c d F' H' R' S' X' => z c d F' H' R' (S2.trans S') X') fun rc e3 z F3 H3 R3 S3 V3 p3 => ?_
      have V2' := V2.wait R2 S3
      cases h3 : (peek e3 rb).bind fun x => (peek e3 rc).bind fun y => g' x y with
      | none => rw [h3] at p3; exact p3.elim
      | some d =>
        rw [h3] at p3
        obtain ⟨dx, h1, h4⟩ := Option.bind_eq_some_iff.mp h3
        obtain ⟨dy, h2, h5⟩ := Option.bind_eq_some_iff.mp h4
        exact o' y z dx dy d H3 _ (peek_rep R3 V2' h1) (peek_rep R3 V3 h2) h5 fun v s => p3.sc R3 (S2.trans S3) s
theorem SE.chain {op op' : CmpOp} {r r' : R2} {g g' : D → D → Option D} (ho : OpR X (compareOp op) r) (ho' : OpR X (compareOp op') r') (o : Op2 X r g) (o' : Op2 X r' g') (sa : SE X W a fa) (sb : SE X W b fb) (sc : SE X W c fc)
    (hm : lastMarks [op, op'] [b, c] = false := by with_unfolding_all rfl) : SE X W (.Compare a [op, op'] [b, c] pos) (eChain g g' fa fb fc) :=
  PE.imp (pe_chain ho ho' sa sb sc hm) fun σ H Q h => use_chain o o' h
/-- a test by a value that is a truth -/
def tBl (fa : Env → Res Rv) : Env → Res Bool := fun env => (fa env).bind fun ra e1 => match ra with
  | .d (.bool k) => .ok k e1
  | _ => .stuck
theorem use_bl {σ : St} {H : Hp} {Q : Bool → Hp → Prop} (h : tT X.K W (tBl fa) σ H Q) : tE X.K W fa σ H fun x H' => ∃ k, x = .bl k ∧ Q k H' := by
  obtain ⟨env, F, R, p⟩ := h
  refine useE (P := TPost X.K W env F σ H Q) R p (fun z => z) (fun x e z => z) fun ra e1 x F1 H1 R1 S1 V1 p1 => ?_
  cases ra with
  | fr c => exact p1.elim
  | sl i => exact p1.elim
  | d d =>
    cases d <;> first | exact p1.elim | skip
    have V : Rep X.K F1 x (.bool _) := V1
    cases V
    exact ⟨_, rfl, p1 F1 H1 R1 S1⟩
theorem ST.chain {op op' : CmpOp} {r r' : R2} {g g' : D → D → Option D} (ho : OpR X (compareOp op) r) (ho' : OpR X (compareOp op') r') (o : Op2 X r g) (o' : Op2 X r' g') (sa : SE X W a fa) (sb : SE X W b fb) (sc : SE X W c fc)
    (hm : lastMarks [op, op'] [b, c] = false := by with_unfolding_all rfl) : ST X W (.Compare a [op, op'] [b, c] pos) (tBl (eChain g g' fa fb fc)) :=
  PT.imp (pt_chain ho ho' sa sb sc hm) fun σ H Q h => use_chain o o' (use_bl h)
end

/-! ### dicts of ints and texts -/
def keyOfD : D → Option Key
  | .int i => some (.inl i)
  | .str x => some (.inr x)
  | _ => none
def valD (gs : List (Key × D)) (k : Key) : Option D := (gs.find? fun kv => decide (kv.1 = k)).map (·.2)
def putD (gs : List (Key × D)) (k : Key) (d : D) : List (Key × D) :=
  if (gs.any fun kv => decide (kv.1 = k)) = true then gs.map (fun kv => if kv.1 = k then (kv.1, d) else kv) else gs ++ [(k, d)]
/-- data that is a dict -/
def dctD : List (D × D) → Option (List (Key × D))
  | [] => some []
  | (k, d) :: r => (keyOfD k).bind fun k => (dctD r).map fun gs => (k, d) :: gs
theorem keyOf_keyD (k : Key) : keyOfD (keyD k) = some k := by cases k <;> rfl
theorem keyOfD_ok {d : D} {k : Key} (h : keyOfD d = some k) : d = keyD k := by
  cases d <;> (cases h; try rfl)
theorem rep_key {K : PySem.W.Frag} {F : Hp} {v : V} {d : D} {k : Key} (h : Rep K F v d) (e : keyOfD d = some k) : v = kV k := by
  cases d <;> (cases e; try (cases h; rfl))
/-- an object's items, related -/
def DRel (K : PySem.W.Frag) (F : Hp) (fs : List (Key × V)) (gs : List (Key × D)) : Prop := fs.map (·.1) = gs.map (·.1) ∧ RepL K F (fs.map (·.2)) (gs.map (·.2))
section
variable {K : PySem.W.Frag} {F G : Hp}
theorem DRel.mono {fs : List (Key × V)} {gs : List (Key × D)} (h : DRel K F fs gs) (s : Sub F G) : DRel K G fs gs := ⟨h.1, h.2.mono s⟩
theorem DRel.len {fs : List (Key × V)} {gs : List (Key × D)} (h : DRel K F fs gs) : fs.length = gs.length := by
  have := congrArg List.length h.1
  simpa using this
theorem DRel.cons_inv {p : Key × V} {q : Key × D} {fs : List (Key × V)} {gs : List (Key × D)} (h : DRel K F (p :: fs) (q :: gs)) : p.1 = q.1 ∧ Rep K F p.2 q.2 ∧ DRel K F fs gs := by
  obtain ⟨h1, h2⟩ := h
  simp only [List.map_cons, List.cons.injEq] at h1
  have h2' : RepL K F (p.2 :: fs.map (·.2)) (q.2 :: gs.map (·.2)) := h2
  cases h2' with
  | cons a b => exact ⟨h1.1, a, h1.2, b⟩
theorem DRel.val : ∀ {fs : List (Key × V)} {gs : List (Key × D)} {k : Key}, DRel K F fs gs → (∃ v d, valV fs k = some v ∧ valD gs k = some d ∧ Rep K F v d) ∨ (valV fs k = none ∧ valD gs k = none)
  | [], [], k, _ => .inr ⟨rfl, rfl⟩
  | [], _ :: _, _, h => by have := h.len; simp at this
  | _ :: _, [], _, h => by have := h.len; simp at this
  | p :: fs, q :: gs, k, h => by
    obtain ⟨h1, h2, h3⟩ := h.cons_inv
    by_cases e : p.1 = k
    · refine .inl ⟨p.2, q.2, valV_pos e, ?_, h2⟩
      unfold valD
      rw [List.find?_cons_of_pos (by rw [← h1]; simpa using e)]
      rfl
    · rcases DRel.val (k := k) h3 with ⟨v, d, h4, h5, h6⟩ | ⟨h4, h5⟩
      · refine .inl ⟨v, d, by rw [valV_neg e]; exact h4, ?_, h6⟩
        unfold valD at h5 ⊢
        rw [List.find?_cons_of_neg (by rw [← h1]; simpa using e)]
        exact h5
      · refine .inr ⟨by rw [valV_neg e]; exact h4, ?_⟩
        unfold valD at h5 ⊢
        rw [List.find?_cons_of_neg (by rw [← h1]; simpa using e)]
        exact h5
theorem DRel.app {fs : List (Key × V)} {gs : List (Key × D)} {k : Key} {v : V} {d : D} (h : DRel K F fs gs) (r : Rep K F v d) : DRel K F (fs ++ [(k, v)]) (gs ++ [(k, d)]) := by
  refine ⟨by simp [h.1], ?_⟩
  simp only [List.map_append, List.map_cons, List.map_nil]
  exact h.2.append (.cons r .nil)
theorem DRel.upd : ∀ {fs : List (Key × V)} {gs : List (Key × D)} {k : Key} {v : V} {d : D}, DRel K F fs gs → Rep K F v d → DRel K F (fs.map fun kv => if kv.1 = k then (kv.1, v) else kv) (gs.map fun kv => if kv.1 = k then (kv.1, d) else kv)
  | [], [], k, v, d, _, _ => ⟨rfl, .nil⟩
  | [], _ :: _, _, _, _, h, _ => by have := h.len; simp at this
  | _ :: _, [], _, _, _, h, _ => by have := h.len; simp at this
  | p :: fs, q :: gs, k, v, d, h, r => by
    obtain ⟨h1, h2, h3⟩ := h.cons_inv
    obtain ⟨i1, i2⟩ := DRel.upd (k := k) h3 r
    by_cases e : p.1 = k
    · have e' : q.1 = k := h1 ▸ e
      refine ⟨?_, ?_⟩
      · simp only [List.map_cons, if_pos e, if_pos e', h1]
        exact congrArg _ i1
      · simp only [List.map_cons, if_pos e, if_pos e']
        exact .cons r i2
    · have e' : ¬ q.1 = k := fun z => e (h1.trans z)
      refine ⟨?_, ?_⟩
      · simp only [List.map_cons, if_neg e, if_neg e', h1]
        exact congrArg _ i1
      · simp only [List.map_cons, if_neg e, if_neg e']
        exact .cons h2 i2
theorem any_keys {α β : Type} : ∀ {fs : List (Key × α)} {gs : List (Key × β)} {k : Key}, fs.map (·.1) = gs.map (·.1) → (fs.any fun kv => decide (kv.1 = k)) = gs.any fun kv => decide (kv.1 = k)
  | [], [], _, _ => rfl
  | [], _ :: _, _, h => by simp at h
  | _ :: _, [], _, h => by simp at h
  | p :: fs, q :: gs, k, h => by
    simp only [List.map_cons, List.cons.injEq] at h
    rw [List.any_cons, List.any_cons, any_keys h.2, h.1]
theorem DRel.put {fs : List (Key × V)} {gs : List (Key × D)} {k : Key} {v : V} {d : D} (h : DRel K F fs gs) (r : Rep K F v d) : DRel K F (putK fs k v) (putD gs k d) := by
  unfold putK putD
  rw [any_keys h.1]
  split
  · exact h.upd r
  · exact h.app r
theorem repK_rel : ∀ {fs : List (Key × V)} {kvs : List (D × D)}, RepK K F fs kvs → ∃ gs, dctD kvs = some gs ∧ DRel K F fs gs
  | [], kvs, h => by cases h; exact ⟨[], rfl, rfl, .nil⟩
  | (k, v) :: fs, kvs, h => by
    cases h with
    | cons h1 h2 =>
      obtain ⟨gs, e, r⟩ := repK_rel h2
      rename_i d kvs'
      refine ⟨(k, d) :: gs, ?_, by simp [r.1], .cons h1 r.2⟩
      unfold dctD
      rw [keyOf_keyD, e]
      rfl
/-- data that is a dict lies as one -/
theorem rep_dct {H : Hp} {v : V} {kvs : List (D × D)} {gs : List (Key × D)} (h : Rep K H v (.dict kvs)) (e : dctD kvs = some gs) : ∃ a fs, v = .ref a ∧ H a = some (.dK fs) ∧ DRel K H fs gs := by
  cases h with
  | scr h1 h2 => cases e
  | ins h1 h2 => cases e
  | dct h1 h2 =>
    obtain ⟨gs', e', r⟩ := repK_rel h2
    rw [e] at e'
    cases e'
    exact ⟨_, _, rfl, h1, r⟩
theorem shw_dct {H : Hp} {v : V} {kvs : List (D × D)} {gs : List (Key × D)} (h : Shw K F H v (.dict kvs)) (s : Sub F H) (e : dctD kvs = some gs) : ∃ a fs, v = .ref a ∧ H a = some (.dK fs) ∧ DRel K F fs gs := by
  rcases h with h | ⟨a, o, c, rfl, h1, h2, h3⟩
  · obtain ⟨a, fs, e1, e2, r⟩ := rep_dct h e
    exact ⟨a, fs, e1, s _ _ e2, r⟩
  · cases h2 with
    | lst h => cases h3
    | ins h4 h5 => cases h3; cases e
    | dct h4 h5 =>
      cases h3
      obtain ⟨gs', e', r⟩ := repK_rel (repK_of h4 h5)
      rw [e] at e'
      cases e'
      exact ⟨a, _, rfl, h1, r⟩
end
def dctOf : D → Option (List (Key × D))
  | .dict kvs => dctD kvs
  | _ => none
/-- d[k] -/
def eIxD (fa fb : Env → Res Rv) : Env → Res Rv := fun env => (fa env).bind fun ra e1 => (fb e1).bind fun rb e2 => match (peek e2 ra).bind dctOf, (peek e2 rb).bind keyOfD with
  | some gs, some k => (match valD gs k with
    | some d => .ok (.d d) e2
    | none => .stuck)
  | _, _ => .stuck
/-- k in d -/
def eInD (neg : Bool) (fa fb : Env → Res Rv) : Env → Res Rv := fun env => (fa env).bind fun ra e1 => (fb e1).bind fun rb e2 => match (peek e2 rb).bind dctOf, (peek e2 ra).bind keyOfD with
  | some gs, some k => .ok (.d (.bool ((valD gs k).isSome != neg))) e2
  | _, _ => .stuck
def eDic0 : Env → Res Rv := fun env => .ok (.fr (.dct [])) env
section
variable {X : Cx} {W : WX} {a b : Expr} {fa fb : Env → Res Rv} {pos : Pos}
theorem SE.ixd (hu : X.A.units + 1 < cLine) (sa : SE X W a fa) (sb : SE X W b fb) (hs : NoSl b) : SE X W (.Subscript a b pos) (eIxD fa fb) := by
  refine PE.imp (pe_dget hu sa sb hs) fun σ H Q h => ?_
  obtain ⟨env, F, R, p⟩ := h
  refine use2 R p fun ra rb e2 x y F2 H2 R2 S2 V1 V2 p2 => ?_
  cases h1 : (peek e2 ra).bind dctOf with
  | none => rw [h1] at p2; exact p2.elim
  | some gs =>
    rw [h1] at p2
    cases h2 : (peek e2 rb).bind keyOfD with
    | none => rw [h2] at p2; exact p2.elim
    | some k =>
      rw [h2] at p2
      dsimp only at p2
      obtain ⟨dx, h3, h4⟩ := Option.bind_eq_some_iff.mp h1
      obtain ⟨dy, h5, h6⟩ := Option.bind_eq_some_iff.mp h2
      cases dx <;> first | (cases h4; done) | skip
      obtain ⟨q, fs, rfl, h7, r7⟩ := shw_dct (peek_top R2 V1 h3) R2.le h4
      cases h8 : valD gs k with
      | none => rw [h8] at p2; exact p2.elim
      | some d =>
        rw [h8] at p2
        rcases r7.val (k := k) with ⟨v, d', e1, e2, e3⟩ | ⟨_, e2⟩
        · rw [h8] at e2
          cases e2
          refine ⟨q, v, rfl, .inl ⟨fs, k, .inl h7, rep_key (peek_rep R2 V2 h5) h6, e1.symm⟩, p2.rep R2 S2 e3⟩
        · rw [h8] at e2
          cases e2
theorem PC.pe {op : CmpOp} {t : TE} (h : PC X op a b t) (hm : behindInMarks op b = false) : PE X (.Compare a [op] [b] pos) t := pe_cmp h hm
theorem SE.ind (hu : X.A.units + 1 < cLine) (sa : SE X W a fa) (sb : SE X W b fb) (hm : behindInMarks .In b = false) : SE X W (.Compare a [.In] [b] pos) (eInD false fa fb) := by
  refine PE.imp (PC.pe (pc_din hu sa sb) hm) fun σ H Q h => ?_
  obtain ⟨env, F, R, p⟩ := h
  refine use2 R p fun ra rb e2 x y F2 H2 R2 S2 V1 V2 p2 => ?_
  cases h1 : (peek e2 rb).bind dctOf with
  | none => rw [h1] at p2; exact p2.elim
  | some gs =>
    rw [h1] at p2
    cases h2 : (peek e2 ra).bind keyOfD with
    | none => rw [h2] at p2; exact p2.elim
    | some k =>
      rw [h2] at p2
      dsimp only at p2
      obtain ⟨dx, h3, h4⟩ := Option.bind_eq_some_iff.mp h1
      obtain ⟨dy, h5, h6⟩ := Option.bind_eq_some_iff.mp h2
      cases dx <;> first | (cases h4; done) | skip
      obtain ⟨q, fs, rfl, h7, r7⟩ := shw_dct (peek_top R2 V2 h3) R2.le h4
      refine ⟨q, valV fs k, rfl, .inl ⟨fs, k, .inl h7, rep_key (peek_rep R2 V1 h5) h6, rfl⟩, ?_⟩
      have e : (valV fs k).isSome = (valD gs k).isSome := by
        rcases r7.val (k := k) with ⟨v, d', e1, e2, e3⟩ | ⟨e1, e2⟩
        · rw [e1, e2]; rfl
        · rw [e1, e2]; rfl
      rw [e]
      have z := p2.sc R2 S2 (sc_bl _)
      simpa using z
theorem SE.nind (hu : X.A.units + 1 < cLine) (sa : SE X W a fa) (sb : SE X W b fb) (hm : behindInMarks .NotIn b = false) : SE X W (.Compare a [.NotIn] [b] pos) (eInD true fa fb) := by
  refine PE.imp (PC.pe (pc_dnotin hu sa sb) hm) fun σ H Q h => ?_
  obtain ⟨env, F, R, p⟩ := h
  refine use2 R p fun ra rb e2 x y F2 H2 R2 S2 V1 V2 p2 => ?_
  cases h1 : (peek e2 rb).bind dctOf with
  | none => rw [h1] at p2; exact p2.elim
  | some gs =>
    rw [h1] at p2
    cases h2 : (peek e2 ra).bind keyOfD with
    | none => rw [h2] at p2; exact p2.elim
    | some k =>
      rw [h2] at p2
      dsimp only at p2
      obtain ⟨dx, h3, h4⟩ := Option.bind_eq_some_iff.mp h1
      obtain ⟨dy, h5, h6⟩ := Option.bind_eq_some_iff.mp h2
      cases dx <;> first | (cases h4; done) | skip
      obtain ⟨q, fs, rfl, h7, r7⟩ := shw_dct (peek_top R2 V2 h3) R2.le h4
      refine ⟨q, valV fs k, rfl, .inl ⟨fs, k, .inl h7, rep_key (peek_rep R2 V1 h5) h6, rfl⟩, ?_⟩
      have e : (valV fs k).isSome = (valD gs k).isSome := by
        rcases r7.val (k := k) with ⟨v, d', e1, e2, e3⟩ | ⟨e1, e2⟩
        · rw [e1, e2]; rfl
        · rw [e1, e2]; rfl
      rw [e]
      have z := p2.sc R2 S2 (sc_bl _)
      simpa using z
theorem SE.dic0 : SE X W (.Dict [] [] pos) eDic0 := by
  refine PE.imp pe_dnewK fun σ H Q h => ?_
  obtain ⟨env, F, R, p⟩ := h
  intro q hq
  have hF : F q = none := by
    cases e : F q with
    | none => rfl
    | some u => rw [R.le q u e] at hq; cases hq
  exact p _ F _ (R.fresh hq) (Stp.fresh hq) ⟨q, _, rfl, hq, hF, upd_same, .dct rfl .nil, fresh_ma R hq⟩
end
/-! ### d[k] = v -/
def dctAt (env : Env) (i : Nat) : Bool := match env[i]? with
  | some (.mu _ _ (.dct _)) => true
  | _ => false
theorem dctAt_ok {env : Env} {i : Nat} (h : dctAt env i = true) : ∃ w l gs, env[i]? = some (.mu w l (.dct gs)) := by
  unfold dctAt at h
  split at h
  · rename_i q; exact ⟨_, _, _, q⟩
  · cases h
def sDPutP (i : Nat) (fk fv : Env → Res Rv) : Env → SRes := fun env => match fv env with
  | .ok rv e1 => (match frz e1 rv with
    | some (d, e2) => if dctAt e2 i then (match fk e2 with
      | .ok rk e3 => (match (peek e3 rk).bind keyOfD, e3[i]? with
        | some k, some (.mu w false (.dct gs)) => if gs.length < 16777216 then .nx (e3.set i (.mu w false (.dct (putD gs k d)))) else .stuck
        | _, _ => .stuck)
      | .exc x e => .exc x e
      | .stuck => .stuck) else .stuck
    | none => .stuck)
  | .exc x e => .exc x e
  | .stuck => .stuck
end PL

set_option Elab.async false
set_option linter.all false
set_option maxRecDepth 100000
set_option maxHeartbeats 4000000
/-! xs.extend(a tuple) -/
namespace PySem
open AutoSeq1
theorem pl_extTup (l : Addr) (items : Array Value) (n : Nat) (b : Addr) (items2 : Array Value) (n2 : Nat) (dd : Option Addr) (sl : Array (Option Value)) (hs0 : ¬(!items.isEmpty && Builtin.List.listTooLong (items.size + items2.size)) = true) (hs1 : items.size ≤ sizeLine) (hs2 : items.size + items2.size ≤ sizeLine + 1) :
    Meets (Builtin.«list.extend» ⟨[.ref l, .ref b], []⟩) (fun _ R s => s.heap.get? l = some { cls := .type "list", dict := none, data := .seq items n, slots := #[] } ∧
      s.heap.get? b = some { cls := .type "tuple", dict := dd, data := .seq items2 n2, slots := sl } ∧ R (.ok (.ret Value.none)) { s with heap := s.heap.update l (Obj.mapSeq fun x => x ++ items2), toks := s.toks }) :=
  .of_wp fun prog w A R s h => by
    obtain ⟨hp, g, d, tk, os⟩ := s
    obtain ⟨hl, hb, h⟩ := h
    have f1 := idx_int
    have f2 := sub_tuple_tuple
    have f3 := sub_list_list
    have f4 := sub_tuple_list
    have f5 := sub_list_tuple
    have hz' : (items ++ items2).size ≤ sizeLine + 1 := by rw [Array.size_append]; exact hs2
    wp_walk using (wpAny_updateSeq hl rfl (hz := hs1) (_hz' := hz')), wpAny_loadPart' hl, wpAny_loadPart' hb
    exact ⟨_, rfl, h⟩
end PySem
namespace L2
open PySem PySem.Spec PyProof.Rows
section
variable {X : Cx}
def plExtT (K : PySem.W.Frag) : V → List V → Hp → VK → Prop := fun x vs H Q => ∃ l b xs zs, x = .ref l ∧ vs = [.ref b] ∧ H l = some (.lst xs) ∧ SqT K H b zs ∧ xs.length + zs.length ≤ sizeLine ∧ Q .non (upd H l (.lst (xs ++ zs)))
theorem pl_mt_ext : MtR X "list.extend" (fun x vs H Q => rExtend x vs H Q ∨ plExtT X.K x vs H Q) := by
  intro pins s σ H x vs v us Q I rx rv h
  rcases h with h | h
  · exact mt_extend pins s σ H x vs v us Q I rx rv h
  obtain ⟨l, b, xs, zs, rfl, rfl, hH, hB, hz, q⟩ := h
  cases rx
  obtain ⟨u, rfl, ru⟩ := rv.one
  cases ru
  obtain ⟨z, its, n, r, hl, e⟩ := I.lstM hH
  obtain ⟨its2, r2, ⟨⟨cls, dd, data, sl⟩, ho, hc, n2, hd⟩, hz2⟩ := I.tuple hB
  simp only at hc hd
  subst hc hd
  have hl2 := r2.length
  have hsz : its.toArray.size + its2.toArray.size ≤ sizeLine := by rw [List.size_toArray, List.size_toArray]; omega
  have hlong : ¬ (!its.toArray.isEmpty && Builtin.List.listTooLong (its.toArray.size + its2.toArray.size)) = true := by
    rw [notLongL hsz, Bool.and_false]
    exact Bool.false_ne_true
  refine call_meets F.slot_list_extend ⟨_, e, rfl⟩ F.entry_list_extend (F.args_list_extend_2 _ _)
    (pl_extTup l its.toArray n b its2.toArray n2 dd sl hlong (by rw [List.size_toArray]; omega) (by omega)) ⟨e, ho, ?_⟩
  refine ⟨.non, _, I.lset (its' := its ++ its2) hH e (by simp) (r.append r2) ?_, rfl, q⟩
  rw [List.length_append]
  omega
end
end L2
namespace PL
open PySem PySem.Spec PyProof.Rows L2
/-- xs.extend(f), f a list or a tuple -/
def eExtA (i : Nat) (f : Env → Res Rv) : Env → Res Rv := fun env => match lstAt env i with
  | none => .stuck
  | some _ => (f env).bind fun r e1 => match frz e1 r with
    | some (d, e2) => (match itD d, lstAt e2 i with
      | some es, some (w, ds) => if ds.length + es.length ≤ 16777216 then .ok (.d .none) (e2.set i (.mu w false (.lst (ds ++ es)))) else .stuck
      | _, _ => .stuck)
    | _ => .stuck
section
variable {X : Cx} {W : WX} {fa : Env → Res Rv} {e o : Expr} {cpos apos : Pos} {i : Nat}
theorem SE.extA (hv : SE X W o (eVar i)) (he : SE X W e fa)
    (hbase : attributeBase o "extend" X.env (eval o X.env) = eval o X.env := by rfl)
    (hfew : ((backTo cpos (starEach [e] X.env)).all (fun x => !x.1) && (backToKw cpos (keywordEach [] X.env)).all (fun x => x.1.isSome)
      && decide (([e] : List Expr).length + ([] : List Keyword).length + (if ([] : List Keyword).isEmpty then 0 else 1) < 30)) = true := by rfl)
    (hline : (apos.endLine == cpos.line) = true := by rfl) (hs : starEach [e] X.env = (false, eval e X.env) :: starEach [] X.env := by rfl) (hplain : (backTo cpos (starEach [] X.env)).any (·.1) = false := by rfl) :
    SE X W (.Call (.Attribute o "extend" apos) [e] [] cpos) (eExtA i fa) := by
  refine PE.imp (pe_bm PySem.F.plainAttrs_list PySem.F.slot_list_extend PySem.F.type_list_extend pl_mt_ext hv (pa_cons he pa_nil hs) hbase hfew hline hs hplain) fun σ H Q h => ?_
  obtain ⟨env, F, R, p⟩ := h
  unfold eExtA at p
  cases q1 : lstAt env i with
  | none => rw [q1] at p; exact p.elim
  | some z =>
    obtain ⟨w0, ds0⟩ := z
    rw [q1] at p
    dsimp only at p
    refine tVar_of R (lstAt_ok q1) fun a F1 H1 R1 S1 hsl => ?_
    obtain ⟨a', xs0, g1, g2, g3, g4⟩ := slot_list R1 (lstAt_ok q1) hsl
    cases g1
    refine ⟨.inl ⟨rfl, xs0, SqL.of g2⟩, ?_⟩
    refine useE (P := EPost X.K W env F σ H Q) R1 p (fun z => z) (fun x e z c d F' H' R' S' X' => z c d F' H' R' (S1.trans S') X') fun ra e1 x F2 H2 R2 S2 V2 p1 => ?_
    cases q2 : PL.frz e1 ra with
    | none => rw [q2] at p1; exact p1.elim
    | some z =>
      obtain ⟨d, e2⟩ := z
      rw [q2] at p1
      dsimp only at p1
      obtain ⟨F3, R3, S3, V3, _⟩ := frz_ok R2 (S1.trans S2) (V2.older S1.dom) q2
      cases q4 : itD d with
      | none => rw [q4] at p1; exact p1.elim
      | some es =>
        rw [q4] at p1
        cases q3 : lstAt e2 i with
        | none => rw [q3] at p1; exact p1.elim
        | some z =>
          obtain ⟨w, ds⟩ := z
          rw [q3] at p1
          dsimp only at p1
          have e5 := lstAt_ok q3
          obtain ⟨a', xs, g1, g2, g3, g4⟩ := slot_list R3 e5 hsl
          cases g1
          split at p1
          · rename_i hl
            cases d <;> first | (cases q4; done) | skip
            · cases q4
              cases V3 with
              | @lst b zs _ v1 v2 =>
                obtain ⟨R5, S5⟩ := mut_ok (o' := .lst (xs ++ zs)) R3 S3 e5 hsl (.lst (g3.append v2))
                exact .inl ⟨a, b, xs, zs, rfl, rfl, g2, R3.le _ _ v1, by rw [g3.length, v2.length, sizeLine_eq]; exact hl, p1 .non F3 _ R5 S5 .non⟩
            · cases q4
              cases V3 with
              | @tup b zs _ v1 v2 =>
                obtain ⟨R5, S5⟩ := mut_ok (o' := .lst (xs ++ zs)) R3 S3 e5 hsl (.lst (g3.append v2))
                exact .inr ⟨a, b, xs, zs, rfl, rfl, g2, sqT_sub v1 R3.le, by rw [g3.length, v2.length, sizeLine_eq]; exact hl, p1 .non F3 _ R5 S5 .non⟩
          · exact p1.elim

/-! ### d[k] = v -/
theorem slot_dct {K : PySem.W.Frag} {F H : Hp} {env : Env} {σ : St} {w l : Bool} {gs : List (Key × D)} {v : V} (R : Rel K env F σ H) (h : env[i]? = some (.mu w l (.dct gs))) (hs : σ[i]? = some (some v)) :
    ∃ a fs, v = .ref a ∧ H a = some (.dK fs) ∧ DRel K F fs gs := by
  obtain ⟨a, o, h1, h2, h3, h4⟩ := R.sl i _ h
  rw [hs] at h1
  cases h1
  cases h4 with
  | dct h5 h6 => exact ⟨a, _, rfl, h3, h5, h6⟩
theorem SS.dput {ix val : Expr} {fk fv : Env → Res Rv} {pos pos' : Pos} (hu : X.A.units + 1 < cLine) (ho : SE X W o (eVar i)) (hk : SE X W ix fk) (hv : SE X W val fv) (hs : swapsWith val (some (.Subscript o ix pos')) pos.line X.env = pure false := by rfl) :
    SS X W (.Assign [.Subscript o ix pos'] val pos) (sDPutP i fk fv) := by
  refine PS.imp (ps_dput hu ho hk hv hs) fun D σ H h => ?_
  obtain ⟨env, F, R, p⟩ := h
  refine useES R p fun ra e1 v F1 H1 R1 S1 V1 p1 => ?_
  cases q1 : PL.frz e1 ra with
  | none => rw [q1] at p1; exact p1.elim
  | some z =>
    obtain ⟨d, e2⟩ := z
    rw [q1] at p1
    dsimp only at p1
    obtain ⟨F2, R2, S2, V2, _⟩ := frz_ok R1 S1 V1 q1
    cases q0 : dctAt e2 i with
    | false => rw [q0, if_neg Bool.false_ne_true] at p1; exact p1.elim
    | true =>
    rw [q0, if_pos rfl] at p1
    obtain ⟨w0, l0, gs0, hi0⟩ := dctAt_ok q0
    have obj : ∀ {w l gs}, e2[i]? = some (.mu w l (.dct gs)) → tE X.K W (eVar i) σ H1 fun x H2 => tE X.K W fk σ H2 fun y H3 => ∃ a H4, x = .ref a ∧ DPut H3 a y v H4 ∧ D.nx σ H4 := fun {w l gs} hi => by
      refine tVar_of R2 hi fun a F3 H3 R3 S3 hsl => ?_
      refine useE (P := fun r => SPost X.K W env F σ H D (match r with
        | .ok rk e3 => (match (peek e3 rk).bind keyOfD, e3[i]? with
          | some k, some (.mu w false (.dct gs)) => if gs.length < 16777216 then .nx (e3.set i (.mu w false (.dct (putD gs k d)))) else .stuck
          | _, _ => .stuck)
        | .exc x e => .exc x e
        | .stuck => .stuck)) (k := fun r e => .ok r e) R3 ?_ (fun z => z) (fun x e z c d F' H' R' S' X' => z c d σ F' H' R' ((S2.trans S3).trans S') X') fun rk e4 y F4 H4 R4 S4 V4 p4 => ?_
      · cases hf : fk e2 with
        | stuck => rw [hf] at p1; exact p1
        | exc x e => rw [hf] at p1; exact p1
        | ok r e => rw [hf] at p1; exact p1
      · dsimp only at p4
        cases q2 : (peek e4 rk).bind keyOfD with
        | none => rw [q2] at p4; exact p4.elim
        | some k =>
          rw [q2] at p4
          cases q3 : e4[i]? with
          | none => rw [q3] at p4; exact p4.elim
          | some s =>
            rw [q3] at p4
            cases s with
            | un => exact p4.elim
            | sh d => exact p4.elim
            | mu w l c =>
              cases l with
              | true => exact p4.elim
              | false =>
                cases c with
                | lst ds => exact p4.elim
                | ins n fs => exact p4.elim
                | dct gs =>
                  dsimp only at p4
                  split at p4
                  · rename_i hl
                    obtain ⟨a', fs, e1, h1, r1⟩ := slot_dct R4 q3 hsl
                    cases e1
                    obtain ⟨dy, h2, h3⟩ := Option.bind_eq_some_iff.mp q2
                    have V3 : Rep X.K F4 v d := V2.mono ((S3.trans S4).sub R2)
                    have put := r1.put (k := k) V3
                    obtain ⟨R5, S5⟩ := mut_ok (o' := .dK (putK fs k v)) R4 ((S2.trans S3).trans S4) q3 hsl (.dct put.1 put.2)
                    refine ⟨a, _, rfl, .inl ⟨fs, k, h1, rep_key (peek_rep R4 V4 h2) h3, by rw [r1.len, sizeLine_eq]; exact hl, rfl⟩, p4 σ F4 _ R5 S5⟩
                  · exact p4.elim
    exact obj hi0
end
end PL

set_option Elab.async false
set_option linter.all false
set_option maxRecDepth 100000
set_option maxHeartbeats 4000000
namespace PL
open PySem PySem.Spec PyProof.Rows L2

/-! ### dict comprehensions -/
def dcGo (vs : List Nat) (g : Tg) (t : Env → Res Bool) (fk fv : Env → Res Rv) : List D → List (Key × D) → Env → Res (List (Key × D))
  | [], acc, e => .ok acc e
  | x :: xs, acc, e => match g x (wipeE vs e) with
    | none => .stuck
    | some e2 => match t e2 with
      | .ok false e3 => dcGo vs g t fk fv xs acc (restE vs e e3)
      | .ok true e3 => (match fk e3 with
        | .ok rk e4 => (match (peek e4 rk).bind keyOfD with
          | some k => (match fv e4 with
            | .ok rv e5 => (match frz e5 rv with
              | some (d, e6) => dcGo vs g t fk fv xs (putD acc k d) (restE vs e e6)
              | none => .stuck)
            | _ => .stuck)
          | none => .stuck)
        | _ => .stuck)
      | _ => .stuck
def eDc (vs : List Nat) (it : Env → Res ItR) (g : Tg) (t : Env → Res Bool) (fk fv : Env → Res Rv) : Env → Res Rv := fun env => (it env).bind fun q e1 => if ownOk vs e1 && decide (q.1.length ≤ 16777216) then
    (match dcGo vs g t fk fv q.1 [] (lockE q.2 e1) with
    | .ok gs e2 => .ok (.fr (.dct gs)) (unlk q.2 e1 e2)
    | _ => .stuck) else .stuck
section
variable {X : Cx} {W : WX}
def DcFin (K : PySem.W.Frag) (W : WX) (env : Env) (F : Hp) (σ : St) (H : Hp) (Q : VK) (lk : List Nat) (e1 : Env) : Res (List (Key × D)) → Prop
  | .ok gs e2 => EPost K W env F σ H Q (.ok (.fr (.dct gs)) (unlk lk e1 e2))
  | _ => False
theorem dc_use {σ : St} {H : Hp} {Q : VK} {vs T : List Nat} {it : Env → Res ItR} {g : Tg} {t : Env → Res Bool} {fk fv : Env → Res Rv} (hT : T.all vs.contains = true) (h : tE X.K W (eDc vs it g t fk fv) σ H Q) :
    tDc (tI X.K W it) (tG X.K g T) (tT X.K W0 t) (tE X.K W0 fk) (tE X.K W0 fv) vs σ H Q := by
  obtain ⟨env, F, R, p⟩ := h
  refine ⟨env, F, R, ?_⟩
  unfold eDc at p
  cases ei : it env with
  | stuck => rw [ei] at p; exact p
  | exc x e => rw [ei] at p; exact p
  | ok q e1 =>
    obtain ⟨ds, lk⟩ := q
    rw [ei] at p
    dsimp only [Res.bind] at p
    intro J F1 H1 R1 S1 hJ L hL
    by_cases hok : (ownOk vs e1 && decide (ds.length ≤ 16777216)) = true
    · rw [if_pos hok] at p
      simp only [Bool.and_eq_true, decide_eq_true_eq] at hok
      obtain ⟨ho, hz⟩ := hok
      have RL := R1.lock (lk := lk)
      have hoL : ownOk vs (lockE lk e1) = true := lock_own ho
      have p0 : DcFin X.K W env F σ H Q lk e1 (dcGo vs g t fk fv ds [] (lockE lk e1)) := by
        cases q : dcGo vs g t fk fv ds [] (lockE lk e1) with
        | stuck => rw [q] at p; exact p
        | exc x e => rw [q] at p; exact p
        | ok es e2 => rw [q] at p; exact p
      have hFL : F1 L = none := by
        cases e : F1 L with
        | none => rfl
        | some u => rw [R1.le L u e] at hL; cases hL
      refine ⟨fun i m H' => m = ds.length - i ∧ i ≤ ds.length ∧ ∃ e F' fs gs, Rel X.K e F' σ H' ∧ Stp (lockE lk e1) σ F1 H1 e σ F' H' ∧ ownOk vs e = true ∧ H' L = some (.dK fs) ∧ F' L = none ∧ ¬ MA e σ L ∧ DRel X.K F' fs gs ∧ fs.length ≤ i ∧
        DcFin X.K W env F σ H Q lk e1 (dcGo vs g t fk fv (ds.drop i) gs e), ⟨ds.length, by simp, Nat.zero_le _, _, F1, [], [], RL.fresh hL, Stp.fresh hL, hoL, upd_same, hFL, fresh_ma RL hL, ⟨rfl, .nil⟩, Nat.zero_le _, p0⟩, ?_⟩
      rintro i m H' ⟨rfl, hi, e, F', fs, gs, R', S', ho', hL', hF', hm', ra, hxl, p'⟩
      have hlk : ∀ a, lkA lk e1 σ a → H' a = H1 a := fun a ha => let ⟨h1, h2⟩ := lkA_not R1 ha; (S'.keep a h1 h2).1
      have hj := hJ e σ F' H' R' (S'.sub RL) hlk i
      by_cases hlt : i < ds.length
      · have e0 : ds.drop i = ds[i] :: ds.drop (i + 1) := List.drop_eq_getElem_cons hlt
        obtain ⟨go, yl⟩ := hj.2 ds[i] (List.getElem?_eq_getElem hlt)
        refine .inr ⟨go, fun H2 => ∃ e F' fs gs, Rel X.K e F' σ H2 ∧ Stp (lockE lk e1) σ F1 H1 e σ F' H2 ∧ ownOk vs e = true ∧ H2 L = some (.dK fs) ∧ F' L = none ∧ ¬ MA e σ L ∧ DRel X.K F' fs gs ∧ fs.length ≤ i + 1 ∧
          DcFin X.K W env F σ H Q lk e1 (dcGo vs g t fk fv (ds.drop (i + 1)) gs e), fun H2 h => ⟨_, by omega, rfl, hlt, h⟩, fun x H2 y => ?_⟩
        obtain ⟨F2, R2, S2, r2⟩ := yl x H2 y
        have hn' : H' L ≠ none := by rw [hL']; simp
        rw [e0] at p'
        unfold dcGo at p'
        cases hg1 : g ds[i] (wipeE vs e) with
        | none => rw [hg1] at p'; exact p'.elim
        | some e3 =>
          rw [hg1] at p'
          dsimp only at p'
          refine ⟨wipeE vs e, F2, ds[i], R2.wiped, r2, e3, hg1, fun σ3 F3 H3 R3 S3 l3 k3 => ?_⟩
          have hw : wipe σ3 vs = wipe σ vs := wipe_eq (by rw [l3, wipe_length]) fun j hj => k3 j fun z => by
            have := List.all_eq_true.mp hT j z
            rw [hj] at this
            cases this
          refine ⟨hw, e3, F3, R3, ?_⟩
          have fin : ∀ {e4 F4 H4}, Rel X.K e4 F4 σ3 H4 → Stp e3 σ3 F3 H3 e4 σ3 F4 H4 → Rel X.K (restE vs e e4) F4 σ H4 ∧ Stp (lockE lk e1) σ F1 H1 (restE vs e e4) σ F4 H4 ∧ ownOk vs (restE vs e e4) = true ∧ H4 L = some (.dK fs) ∧ F4 L = none ∧ ¬ MA (restE vs e e4) σ L ∧ DRel X.K F4 fs gs := fun {e4 F4 H4} R4 S4 => by
            obtain ⟨u1, u2⟩ := unwipe R2 ho' R4 (S3.trans S4) hw
            have u3 := S2.trans u2
            have k4 := u3.keep L hn' fun z => hm' z.ma
            refine ⟨u1, S'.trans u3, rest_own ho', k4.1.trans hL', k4.2.trans hF', fun z => ?_, ra.mono (u3.sub R')⟩
            rcases u3.newM L z with z | z
            · exact hm' z
            · exact hn' z
          cases ht : t e3 with
          | stuck => rw [ht] at p'; exact p'
          | exc x e => rw [ht] at p'; exact p'.elim
          | ok b e4 =>
            rw [ht] at p'
            intro F4 H4 R4 S4
            cases b with
            | false =>
              rw [if_neg Bool.false_ne_true]
              obtain ⟨u1, u2, u3, u4, u5, u6, u7⟩ := fin R4 S4
              exact ⟨_, F4, fs, gs, u1, u2, u3, u4, u5, u6, u7, by omega, p'⟩
            | true =>
              rw [if_pos rfl]
              refine ⟨e4, F4, R4, ?_⟩
              dsimp only at p'
              cases hf : fk e4 with
              | stuck => rw [hf] at p'; exact p'
              | exc x e => rw [hf] at p'; exact p'.elim
              | ok rk e5 =>
                rw [hf] at p'
                intro yk F5 H5 R5 S5 V5
                dsimp only at p'
                cases hk : (peek e5 rk).bind keyOfD with
                | none => rw [hk] at p'; exact p'.elim
                | some k =>
                  rw [hk] at p'
                  dsimp only at p'
                  obtain ⟨dk, h1, h2⟩ := Option.bind_eq_some_iff.mp hk
                  have ek : yk = kV k := rep_key (peek_rep R5 V5 h1) h2
                  refine ⟨e5, F5, R5, ?_⟩
                  cases hf2 : fv e5 with
                  | stuck => rw [hf2] at p'; exact p'
                  | exc x e => rw [hf2] at p'; exact p'.elim
                  | ok r e6 =>
                    rw [hf2] at p'
                    intro y F6 H6 R6 S6 V6
                    dsimp only at p'
                    cases hz5 : frz e6 r with
                    | none => rw [hz5] at p'; exact p'.elim
                    | some dz =>
                      obtain ⟨d, e7⟩ := dz
                      rw [hz5] at p'
                      dsimp only at p'
                      obtain ⟨F7, R7, S7, V7, _⟩ := frz_ok R6 S6 V6 hz5
                      obtain ⟨u1, u2, u3, u4, u5, u6, u7⟩ := fin R7 ((S4.trans S5).trans S7)
                      have hl := length_putK fs k y
                      exact ⟨fs, k, ek, u4, by rw [sizeLine_eq]; omega, _, F7, putK fs k y, putD gs k d, u1.poke u5 u6, u2.poke hL, u3, upd_same, u5, u6, u7.put V7, by omega, p'⟩
      · have e0 : i = ds.length := by omega
        subst e0
        rw [List.drop_length] at p'
        refine .inl ⟨hj.1 (Nat.le_refl _), ?_⟩
        have p2 : EPost X.K W env F σ H Q (.ok (.fr (.dct gs)) (unlk lk e1 e)) := p'
        obtain ⟨a, b⟩ := through R1 R' S'
        exact p2 _ F' H' a (S1.trans b) ⟨L, _, rfl, Classical.byContradiction fun z => S1.dom L z hL, hF', hL', .dct ra.1 ra.2, fun z => hm' (unlk_ma.mp z)⟩
    · rw [if_neg hok] at p
      exact p.elim
variable {kx vx tg iter : Expr} {ifs : List Expr} {scope : Scope} {own : List (Str × Nat)} {pos : Pos} {it : Env → Res ItR} {g : Tg} {T : List Nat} {t : Env → Res Bool} {fk fv : Env → Res Rv}
theorem SE.dc (hc : X.calm = true) (hN : X.N.Nodup) (hi : SI X W tg iter it) (ok : BlkOk X.N X.env.scope scope own) (hT : T.all (own.map (·.2)).contains = true)
    (hg : ∀ (s : Shared) (H : Hp) (C : Addr) (cl : List (Str × Addr)) (fp : List Addr), SG (X.blk s H scope (compEnvC scope cl C X.env) fp) tg g T) (ht : ∀ (s : Shared) (H : Hp) (C : Addr) (cl : List (Str × Addr)) (fp : List Addr), PTs (X.blk s H scope (compEnvC scope cl C X.env) fp) ifs (tT X.K W0 t))
    (hk : ∀ (s : Shared) (H : Hp) (C : Addr) (cl : List (Str × Addr)) (fp : List Addr), SE (X.blk s H scope (compEnvC scope cl C X.env) fp) W0 kx fk)
    (hv : ∀ (s : Shared) (H : Hp) (C : Addr) (cl : List (Str × Addr)) (fp : List Addr), SE (X.blk s H scope (compEnvC scope cl C X.env) fp) W0 vx fv) (hs : ∀ x, foldedSetIterable iter X.env x = pure x := by intro _; rfl) :
    SE X W (.DictComp kx vx [⟨tg, iter, ifs, 0⟩] scope pos) (eDc (own.map (·.2)) it g t fk fv) :=
  PE.imp (pe_dc (g := tG X.K g T) (tk := tE X.K W0 fk) (tv := tE X.K W0 fv) hc hN hi ok hg ht hk hv hs) fun σ H Q h => dc_use hT h
end

/-! ### a, b = x, y: no pair is made -/
/-- an object that a slot holds becomes data -/
def unsl (env : Env) : Rv → Option (Rv × Env)
  | .sl i => (frz env (.sl i)).map fun p => (.d p.1, p.2)
  | r => some (r, env)
def unsls : List Rv → Env → Option (List Rv × Env)
  | [], env => some ([], env)
  | r :: rs, env => (unsl env r).bind fun p => (unsls rs p.2).map fun q => (p.1 :: q.1, q.2)
def asgns : List Nat → List Rv → Env → Option Env
  | [], [], env => some env
  | i :: is, r :: rs, env => (asgn env i r).bind fun e => asgns is rs e
  | _, _, _ => none
def sPar (is : List Nat) (fs : List (Env → Res Rv)) : Env → SRes := fun env => match eRs fs env with
  | .ok rs e => (match (unsls rs e).bind fun p => asgns is p.1 p.2 with
    | some e' => .nx e'
    | none => .stuck)
  | .exc x e => .exc x e
  | .stuck => .stuck
def noSl : Rv → Prop
  | .sl _ => False
  | _ => True
section
variable {K : PySem.W.Frag} {F H Hs F0 : Hp} {env env0 e' : Env} {σ σ0 : St}
theorem RsRel.tail {r : Rv} {rs : List Rv} {v : V} {vs : List V} (h : RsRel K Hs F H env σ (r :: rs) (v :: vs)) : RvRel K Hs F H env σ r v ∧ RsRel K Hs F H env σ rs vs :=
  ⟨h.each 0 r v rfl rfl, ⟨fun j r' v' e1 e2 => h.each (j + 1) r' v' (by simpa using e1) (by simpa using e2), by simpa using h.len, fun i j c c' a e1 e2 e3 e4 => by
    have := h.apart (i + 1) (j + 1) c c' a (by simpa using e1) (by simpa using e2) (by simpa using e3) (by simpa using e4)
    omega⟩⟩
theorem RsRel.wait {rs : List Rv} {vs : List V} {F' : Hp} (h : RsRel K Hs F H env σ rs vs) (R : Rel K env F σ H) (S : Stp env σ F H e' σ F' H) : RsRel K Hs F' H e' σ rs vs :=
  ⟨fun j r v e1 e2 => (h.each j r v e1 e2).wait R S, h.len, h.apart⟩
theorem RsRel.back {r : Rv} {rs : List Rv} {v : V} {vs : List V} (h : RvRel K Hs F H env σ r v) (t : RsRel K Hs F H env σ rs vs) (ap : ∀ c a, r = .fr c → v = .ref a → ∀ (j : Nat) c', rs[j]? = some (.fr c') → vs[j]? ≠ some (.ref a)) : RsRel K Hs F H env σ (r :: rs) (v :: vs) := by
  refine ⟨fun j r' v' e1 e2 => ?_, by simp [t.len], fun i j c c' a e1 e2 s1 s2 => ?_⟩
  · cases j with
    | zero => cases e1; cases e2; exact h
    | succ j => exact t.each j r' v' (by simpa using e1) (by simpa using e2)
  · cases i with
    | zero =>
      cases j with
      | zero => rfl
      | succ j =>
        simp at e1 s1
        exact absurd (show vs[j]? = some (.ref a) by simpa using s2) (ap c a e1 s1 j c' (by simpa using e2))
    | succ i =>
      cases j with
      | zero =>
        simp at e2 s2
        exact absurd (show vs[i]? = some (.ref a) by simpa using s1) (ap c' a e2 s2 i c (by simpa using e1))
      | succ j => exact congrArg Nat.succ (t.apart i j c c' a (by simpa using e1) (by simpa using e2) (by simpa using s1) (by simpa using s2))
theorem unsl_ok {r r' : Rv} {v : V} (R : Rel K env F σ H) (S : Stp env0 σ0 F0 Hs env σ F H) (V : RvRel K Hs F H env σ r v) (e : unsl env r = some (r', e')) :
    ∃ F', Rel K e' F' σ H ∧ Stp env0 σ0 F0 Hs e' σ F' H ∧ Stp env σ F H e' σ F' H ∧ RvRel K Hs F' H e' σ r' v ∧ noSl r' ∧ (∀ c, r' = .fr c → r = .fr c) := by
  cases r with
  | d x =>
    cases e
    exact ⟨F, R, S, Stp.refl, V, trivial, fun c z => by cases z⟩
  | fr c =>
    cases e
    exact ⟨F, R, S, Stp.refl, V, trivial, fun c z => z⟩
  | sl i =>
    obtain ⟨p, h1, h2⟩ := Option.map_eq_some_iff.mp e
    obtain ⟨d, e2⟩ := p
    cases h2
    obtain ⟨F', R', S', r', _⟩ := frz_ok R (Stp.refl (env := env) (σ := σ) (F := F) (H := H)) (show RvRel K H F H env σ (.sl i) v from V) h1
    exact ⟨F', R', S.trans S', S', r', trivial, fun c z => by cases z⟩
theorem unsls_ok : ∀ {rs rs' : List Rv} {vs : List V} {env e' : Env} {F : Hp}, Rel K env F σ H → Stp env0 σ0 F0 Hs env σ F H → RsRel K Hs F H env σ rs vs → unsls rs env = some (rs', e') →
    ∃ F', Rel K e' F' σ H ∧ Stp env0 σ0 F0 Hs e' σ F' H ∧ Stp env σ F H e' σ F' H ∧ RsRel K Hs F' H e' σ rs' vs ∧ (∀ r ∈ rs', noSl r) ∧ ∀ (j : Nat) c, rs'[j]? = some (.fr c) → rs[j]? = some (.fr c)
  | [], rs', vs, env, e', F, R, S, RR, h => by
    cases h
    exact ⟨F, R, S, Stp.refl, RR, fun _ h => by simp at h, fun j c h => h⟩
  | r :: rs, rs', [], env, e', F, R, S, RR, h => by have := RR.len; simp at this
  | r :: rs, rs', v :: vs, env, e', F, R, S, RR, h => by
    unfold unsls at h
    obtain ⟨p, h1, h2⟩ := Option.bind_eq_some_iff.mp h
    obtain ⟨q, h3, h4⟩ := Option.map_eq_some_iff.mp h2
    cases h4
    obtain ⟨V, T⟩ := RR.tail
    obtain ⟨F1, R1, S1, S1', V1, n1, f1⟩ := unsl_ok R S V h1
    obtain ⟨F2, R2, S2, S2', T2, n2, f2⟩ := unsls_ok R1 S1 (T.wait R S1') h3
    refine ⟨F2, R2, S2, S1'.trans S2', RsRel.back (V1.wait R1 S2') T2 (fun c a e1 e2 j c' e3 e4 => ?_), fun r hr => ?_, fun j c hj => ?_⟩
    · have := RR.apart 0 (j + 1) c c' a (by rw [f1 c e1]; rfl) (by simpa using f2 j c' e3) (by rw [e2]; rfl) (by simpa using e4)
      omega
    · rcases List.mem_cons.mp hr with z | z
      · rw [z]; exact n1
      · exact n2 r z
    · cases j with
      | zero =>
        simp at hj
        rw [f1 c hj]
        rfl
      | succ j => simpa using f2 j c (by simpa using hj)
theorem asgn_wait {i : Nat} {r : Rv} {rs : List Rv} {v : V} {vs : List V} (R : Rel K env F σ H) (S : Stp env0 σ0 F0 Hs env σ F H) (RR : RsRel K Hs F H env σ (r :: rs) (v :: vs)) (hn : ∀ q ∈ r :: rs, noSl q) (e : asgn env i r = some e') :
    Rel K e' F (σ.set i (some v)) H ∧ Stp env0 σ0 F0 Hs e' (σ.set i (some v)) F H ∧ RsRel K Hs F H e' (σ.set i (some v)) rs vs := by
  obtain ⟨V, T⟩ := RR.tail
  have main : Rel K e' F (σ.set i (some v)) H ∧ Stp env0 σ0 F0 Hs e' (σ.set i (some v)) F H ∧ ∀ b, MA e' (σ.set i (some v)) b → MA env σ b ∨ (∃ c, r = .fr c) ∧ v = .ref b := by
    cases r with
    | sl i => exact (hn _ List.mem_cons_self).elim
    | fr c =>
      dsimp only [asgn] at e
      split at e
      · rename_i hc
        cases e
        obtain ⟨c1, c2⟩ := canSet_ok hc
        obtain ⟨a, o, rfl, h0, h1, h2, h3, h4⟩ := V
        obtain ⟨x, y⟩ := set_mu R S c1 c2 h0 h1 h2 h3 h4
        refine ⟨x, y, fun b hb => ?_⟩
        obtain ⟨j, w, l, c', e1, e2⟩ := hb
        by_cases hj : j = i
        · subst hj
          rw [List.getElem?_set_self (by rw [R.len]; exact c1)] at e2
          cases e2
          exact .inr ⟨⟨c, rfl⟩, rfl⟩
        · rw [List.getElem?_set_ne (Ne.symm hj)] at e1 e2
          exact .inl ⟨j, w, l, c', e1, e2⟩
      · cases e
    | d x =>
      dsimp only [asgn, frz] at e
      split at e
      · rename_i hc
        cases e
        obtain ⟨c1, c2⟩ := canSet_ok hc
        obtain ⟨x', y⟩ := set_sh R S c1 c2 V
        refine ⟨x', y, fun b hb => ?_⟩
        obtain ⟨j, w, l, c', e1, e2⟩ := hb
        by_cases hj : j = i
        · subst hj
          rw [List.getElem?_set_self c1] at e1
          cases e1
        · rw [List.getElem?_set_ne (Ne.symm hj)] at e1 e2
          exact .inl ⟨j, w, l, c', e1, e2⟩
      · cases e
  obtain ⟨m1, m2, m3⟩ := main
  refine ⟨m1, m2, fun j r' v' e1 e2 => ?_, T.len, T.apart⟩
  have z := T.each j r' v' e1 e2
  cases r' with
  | sl k => exact (hn _ (List.mem_cons_of_mem _ (List.mem_of_getElem? e1))).elim
  | d x => exact z
  | fr c =>
    obtain ⟨a, o, h, h0, h1, h2, h3, h4⟩ := z
    subst h
    refine ⟨a, o, rfl, h0, h1, h2, h3, fun y => ?_⟩
    rcases m3 a y with y | ⟨⟨c', hr⟩, hv⟩
    · exact h4 y
    · have := RR.apart 0 (j + 1) c' c a (by rw [hr]; rfl) (by simpa using e1) (by rw [hv]; rfl) (by simpa using e2)
      omega
theorem asgns_ok : ∀ {is : List Nat} {rs : List Rv} {vs : List V} {env e' : Env} {σ : St}, Rel K env F σ H → Stp env0 σ0 F0 Hs env σ F H → RsRel K Hs F H env σ rs vs → (∀ q ∈ rs, noSl q) → asgns is rs env = some e' →
    Rel K e' F ((is.zip vs).foldl (fun s p => s.set p.1 (some p.2)) σ) H ∧ Stp env0 σ0 F0 Hs e' ((is.zip vs).foldl (fun s p => s.set p.1 (some p.2)) σ) F H
  | [], [], vs, env, e', σ, R, S, RR, hn, h => by cases h; exact ⟨R, S⟩
  | [], _ :: _, vs, env, e', σ, R, S, RR, hn, h => by cases h
  | i :: is, [], vs, env, e', σ, R, S, RR, hn, h => by cases h
  | i :: is, r :: rs, [], env, e', σ, R, S, RR, hn, h => by have := RR.len; simp at this
  | i :: is, r :: rs, v :: vs, env, e', σ, R, S, RR, hn, h => by
    unfold asgns at h
    obtain ⟨e1, h1, h2⟩ := Option.bind_eq_some_iff.mp h
    obtain ⟨a, b, c⟩ := asgn_wait R S RR hn h1
    have z := asgns_ok (is := is) (rs := rs) (vs := vs) a b c (fun q hq => hn q (List.mem_cons_of_mem _ hq)) h2
    exact z
end
section
variable {X : Cx} {W : WX} {a b c : Expr} {fs : List (Env → Res Rv)} {fa fb fc : Env → Res Rv} {pos px py pz pt : Pos} {D : Ends}
theorem use_par {is : List Nat} {σ : St} {H : Hp} (hl : fs.length = is.length) (h : tS X.K W (sPar is fs) D σ H) : tR X.K W (eRs fs) σ H fun vs H1 => vs.length = is.length ∧ D.nx ((is.zip vs).foldl (fun s p => s.set p.1 (some p.2)) σ) H1 := by
  obtain ⟨env, F, R, p⟩ := h
  refine ⟨env, F, R, ?_⟩
  unfold sPar at p
  cases ea : eRs fs env with
  | stuck => rw [ea] at p; exact p
  | exc x e => rw [ea] at p; exact fun c d F' H' R' S' X' => p c d σ F' H' R' S' X'
  | ok rs e1 =>
    rw [ea] at p
    intro vs F1 H1 R1 S1 RR
    have p1 : SPost X.K W env F σ H D (match (unsls rs e1).bind fun p => asgns is p.1 p.2 with | some e' => .nx e' | none => .stuck) := p
    cases h1 : (unsls rs e1).bind fun p => asgns is p.1 p.2 with
    | none => rw [h1] at p1; exact p1.elim
    | some e2 =>
      rw [h1] at p1
      obtain ⟨q, h2, h3⟩ := Option.bind_eq_some_iff.mp h1
      obtain ⟨rs', e3⟩ := q
      obtain ⟨F2, R2, S2, _, RR2, hn, _⟩ := unsls_ok R1 S1 RR h2
      obtain ⟨R3, S3⟩ := asgns_ok R2 S2 RR2 hn h3
      refine ⟨?_, p1 _ F2 H1 R3 S3⟩
      have lenA : ∀ {fs : List (Env → Res Rv)} {env e : Env} {rs : List Rv}, eRs fs env = .ok rs e → rs.length = fs.length := fun {fs} => by
        induction fs with
        | nil => intro env e rs h; cases h; rfl
        | cons f fs ih =>
          intro env e rs h
          unfold eRs at h
          cases h1 : f env with
          | stuck => rw [h1] at h; cases h
          | exc _ _ => rw [h1] at h; cases h
          | ok r e1 =>
            rw [h1] at h
            dsimp only [Res.bind] at h
            cases h2 : eRs fs e1 with
            | stuck => rw [h2] at h; cases h
            | exc _ _ => rw [h2] at h; cases h
            | ok rs' e2 =>
              rw [h2] at h
              cases h
              simp [ih h2]
      rw [← RR.len, lenA ea, hl]
theorem SS.par2 {i j : Nat} {x y : Str} {kt k2 pt2} (hc : X.calm = true) (hN : X.N.Nodup) (hi : X.N[i]? = some x) (hj : X.N[j]? = some y) (hij : i ≠ j)
    (hx : X.env.scope.names.lookup x = some .local) (hy : X.env.scope.names.lookup y = some .local) (ha : SR X W [a, b] [fa, fb])
    (hw : swappedStores [.Tuple [.Name x px, .Name y py] kt pt] (.Tuple [a, b] k2 pt2) X.env = pure (some [x, y]))
    (hs : swapsWithSole [.Tuple [.Name x px, .Name y py] kt pt] (.Tuple [a, b] k2 pt2) pos.line X.env = pure false := by rfl) :
    SS X W (.Assign [.Tuple [.Name x px, .Name y py] kt pt] (.Tuple [a, b] k2 pt2) pos) (sPar [i, j] [fa, fb]) := by
  refine PS.imp (ps_par (ta := fun σ H Q => tR X.K W (eRs [fa, fb]) σ H fun vs H1 => vs.length = 2 ∧ Q vs H1) hc hN hi hj hij hx hy ?_ hw hs) fun D σ H h => ?_
  · refine ⟨fun po pins s σ H Q I q => ?_⟩
    obtain ⟨env, F, R, p⟩ := q
    exact wpAny_mono (ha.run po pins s σ H (fun vs H1 => vs.length = 2 ∧ Q vs H1) I ⟨env, F, R, p⟩) (fun us s1 ⟨vs, H1, I1, r1, _, q1⟩ => ⟨vs, H1, I1, r1, q1⟩) fun _ _ z => z
  · have z := use_par (by rfl) h
    obtain ⟨env, F, R, p⟩ := z
    refine ⟨env, F, R, ?_⟩
    cases ea : eRs [fa, fb] env with
    | stuck => rw [ea] at p; exact p
    | exc x e => rw [ea] at p; exact p
    | ok rs e1 =>
      rw [ea] at p
      intro vs F1 H1 R1 S1 RR
      obtain ⟨h1, h2⟩ := p vs F1 H1 R1 S1 RR
      match vs, h1, h2 with
      | [v, w], _, h2 => exact ⟨rfl, v, w, rfl, h2⟩
theorem SS.par3 {i j l : Nat} {x y z : Str} {kt k2 pt2} (hc : X.calm = true) (hN : X.N.Nodup) (hi : X.N[i]? = some x) (hj : X.N[j]? = some y) (hl : X.N[l]? = some z) (hij : i ≠ j) (hil : i ≠ l) (hjl : j ≠ l)
    (hx : X.env.scope.names.lookup x = some .local) (hy : X.env.scope.names.lookup y = some .local) (hz : X.env.scope.names.lookup z = some .local) (ha : SR X W [a, b, c] [fa, fb, fc])
    (hw : swappedStores [.Tuple [.Name x px, .Name y py, .Name z pz] kt pt] (.Tuple [a, b, c] k2 pt2) X.env = pure (some [x, y, z]))
    (hs : swapsWithSole [.Tuple [.Name x px, .Name y py, .Name z pz] kt pt] (.Tuple [a, b, c] k2 pt2) pos.line X.env = pure false := by rfl) :
    SS X W (.Assign [.Tuple [.Name x px, .Name y py, .Name z pz] kt pt] (.Tuple [a, b, c] k2 pt2) pos) (sPar [i, j, l] [fa, fb, fc]) := by
  refine PS.imp (ps_par3 (ta := fun σ H Q => tR X.K W (eRs [fa, fb, fc]) σ H fun vs H1 => vs.length = 3 ∧ Q vs H1) hc hN hi hj hl hij hil hjl hx hy hz ?_ hw hs) fun D σ H h => ?_
  · refine ⟨fun po pins s σ H Q I q => ?_⟩
    obtain ⟨env, F, R, p⟩ := q
    exact wpAny_mono (ha.run po pins s σ H (fun vs H1 => vs.length = 3 ∧ Q vs H1) I ⟨env, F, R, p⟩) (fun us s1 ⟨vs, H1, I1, r1, _, q1⟩ => ⟨vs, H1, I1, r1, q1⟩) fun _ _ z => z
  · have z := use_par (by rfl) h
    obtain ⟨env, F, R, p⟩ := z
    refine ⟨env, F, R, ?_⟩
    cases ea : eRs [fa, fb, fc] env with
    | stuck => rw [ea] at p; exact p
    | exc x e => rw [ea] at p; exact p
    | ok rs e1 =>
      rw [ea] at p
      intro vs F1 H1 R1 S1 RR
      obtain ⟨h1, h2⟩ := p vs F1 H1 R1 S1 RR
      match vs, h1, h2 with
      | [u, v, w], _, h2 => exact ⟨rfl, u, v, w, rfl, h2⟩
end
end PL

set_option Elab.async false
set_option linter.all false
set_option maxRecDepth 100000
set_option maxHeartbeats 4000000
namespace PL
open PySem PySem.Spec PyProof.Rows L2

/-! ### a def -/
def okPar : Sl → Bool
  | .mu true true _ => false
  | _ => true
/-- the parameters behind the body: what was lent -/
def parsOut : List Sl → Env → List Sl
  | [], _ => []
  | .mu false _ _ :: ps, s :: e => s :: parsOut ps e
  | _ :: ps, _ :: e => .un :: parsOut ps e
  | _ :: ps, [] => .un :: parsOut ps []
def retV (env : Env) : Rv → Option Rv
  | .sl i => (match env[i]? with
    | some (.sh d) => some (.d d)
    | some (.mu true false c) => some (.fr c)
    | _ => none)
  | r => some r
/-- a def with n parameters, m names -/
def runF (m : Nat) (body : Env → SRes) : List Sl → FRes := fun ps => if ps.all okPar then (match body (ps ++ List.replicate (m - ps.length) .un) with
  | .nx e => .ok (.d .none) (parsOut ps e)
  | .rt r e => (match retV e r with
    | some r' => .ok r' (parsOut ps e)
    | none => .stuck)
  | .exc x e => .exc x (parsOut ps e)
  | _ => .stuck) else .stuck
theorem parsOut_len : ∀ {ps : List Sl} {e : Env}, (parsOut ps e).length = ps.length
  | [], _ => rfl
  | .un :: ps, [] => by simp [parsOut, parsOut_len]
  | .sh _ :: ps, [] => by simp [parsOut, parsOut_len]
  | .mu false _ _ :: ps, [] => by simp [parsOut, parsOut_len]
  | .mu true _ _ :: ps, [] => by simp [parsOut, parsOut_len]
  | .un :: ps, s :: e => by simp [parsOut, parsOut_len]
  | .sh _ :: ps, s :: e => by simp [parsOut, parsOut_len]
  | .mu false _ _ :: ps, s :: e => by simp [parsOut, parsOut_len]
  | .mu true _ _ :: ps, s :: e => by simp [parsOut, parsOut_len]
theorem parsOut_get : ∀ {ps : List Sl} {e : Env} {i : Nat} {s : Sl}, (parsOut ps e)[i]? = some s → s = .un ∨ (∃ l c, ps[i]? = some (.mu false l c)) ∧ e[i]? = some s
  | [], _, i, s, h => by simp [parsOut] at h
  | .un :: ps, [], i, s, h => by
    cases i with
    | zero => simp [parsOut] at h; exact .inl h.symm
    | succ i => rcases parsOut_get (ps := ps) (e := []) (i := i) (by simpa [parsOut] using h) with z | ⟨_, z⟩; exact .inl z; simp at z
  | .sh _ :: ps, [], i, s, h => by
    cases i with
    | zero => simp [parsOut] at h; exact .inl h.symm
    | succ i => rcases parsOut_get (ps := ps) (e := []) (i := i) (by simpa [parsOut] using h) with z | ⟨_, z⟩; exact .inl z; simp at z
  | .mu false _ _ :: ps, [], i, s, h => by
    cases i with
    | zero => simp [parsOut] at h; exact .inl h.symm
    | succ i => rcases parsOut_get (ps := ps) (e := []) (i := i) (by simpa [parsOut] using h) with z | ⟨_, z⟩; exact .inl z; simp at z
  | .mu true _ _ :: ps, [], i, s, h => by
    cases i with
    | zero => simp [parsOut] at h; exact .inl h.symm
    | succ i => rcases parsOut_get (ps := ps) (e := []) (i := i) (by simpa [parsOut] using h) with z | ⟨_, z⟩; exact .inl z; simp at z
  | .un :: ps, t :: e, i, s, h => by
    cases i with
    | zero => simp [parsOut] at h; exact .inl h.symm
    | succ i => simpa using parsOut_get (ps := ps) (e := e) (i := i) (by simpa [parsOut] using h)
  | .sh _ :: ps, t :: e, i, s, h => by
    cases i with
    | zero => simp [parsOut] at h; exact .inl h.symm
    | succ i => simpa using parsOut_get (ps := ps) (e := e) (i := i) (by simpa [parsOut] using h)
  | .mu true _ _ :: ps, t :: e, i, s, h => by
    cases i with
    | zero => simp [parsOut] at h; exact .inl h.symm
    | succ i => simpa using parsOut_get (ps := ps) (e := e) (i := i) (by simpa [parsOut] using h)
  | .mu false l c :: ps, t :: e, i, s, h => by
    cases i with
    | zero => simp [parsOut] at h; exact .inr ⟨⟨l, c, rfl⟩, by simpa using h⟩
    | succ i => simpa using parsOut_get (ps := ps) (e := e) (i := i) (by simpa [parsOut] using h)
theorem parsOut_at : ∀ {ps : List Sl} {e : Env} {i : Nat} {l : Bool} {c : Co} {s : Sl}, ps[i]? = some (.mu false l c) → e[i]? = some s → (parsOut ps e)[i]? = some s
  | [], _, i, l, c, s, h, _ => by simp at h
  | p :: ps, [], i, l, c, s, _, h => by simp at h
  | p :: ps, t :: e, 0, l, c, s, h, h' => by
    simp at h h'
    subst h
    subst h'
    simp [parsOut]
  | p :: ps, t :: e, i + 1, l, c, s, h, h' => by
    have z := parsOut_at (ps := ps) (e := e) (i := i) (by simpa using h) (by simpa using h')
    cases p with
    | un => simpa [parsOut] using z
    | sh d => simpa [parsOut] using z
    | mu w l c => cases w <;> simpa [parsOut] using z
section
variable {K : PySem.W.Frag} {F H F' H' : Hp} {ps : List Sl} {vs : List V} {m : Nat} {e : Env} {σ' : St} {Q : VK} {E : XK}
theorem start_get {N : List Str} {i : Nat} (h : i < vs.length) : (L2.start N vs)[i]? = (vs.map some)[i]? := by
  unfold L2.start
  rw [List.getElem?_append_left (by simpa using h)]
theorem start_len {N : List Str} (h : vs.length ≤ N.length) : (L2.start N vs).length = N.length := by
  unfold L2.start
  simp
  omega
theorem app_un {i : Nat} {s : Sl} (h : (ps ++ List.replicate (m - ps.length) Sl.un)[i]? = some s) : ps[i]? = some s ∨ s = .un := by
  by_cases hi : i < ps.length
  · rw [List.getElem?_append_left hi] at h; exact .inl h
  · rw [List.getElem?_append_right (by omega)] at h
    exact .inr (List.eq_of_mem_replicate (List.mem_of_getElem? h))
theorem Rel.start {N : List Str} (R : Rel K ps F (vs.map some) H) (hN : vs.length ≤ N.length) : Rel K (ps ++ List.replicate (N.length - ps.length) Sl.un) F (L2.start N vs) H := by
  have hl : vs.length = ps.length := by simpa using R.len
  have mu : ∀ {i : Nat} {w l : Bool} {c : Co} {x : Option (Option V)}, (ps ++ List.replicate (N.length - ps.length) Sl.un)[i]? = some (.mu w l c) → (L2.start N vs)[i]? = x → ps[i]? = some (.mu w l c) ∧ (vs.map some)[i]? = x := fun {i w l c x} e1 e2 => by
    rcases app_un e1 with h | h
    · have hi : i < vs.length := by rw [hl]; exact (List.getElem?_eq_some_iff.mp h).1
      exact ⟨h, by rw [← start_get hi]; exact e2⟩
    · cases h
  refine ⟨R.le, ?_, fun i s e => ?_, fun i j w l c w' l' c' a e1 e2 s1 s2 => ?_⟩
  · rw [start_len hN, List.length_append, List.length_replicate]
    omega
  · rcases app_un e with h | h
    · have hi : i < vs.length := by rw [hl]; exact (List.getElem?_eq_some_iff.mp h).1
      rw [start_get hi]
      exact R.sl i s h
    · subst h
      exact trivial
  · obtain ⟨h1, h2⟩ := mu e1 s1
    obtain ⟨h3, h4⟩ := mu e2 s2
    exact R.ap i j w l c w' l' c' a h1 h3 h2 h4
/-- behind the body, at the parameters -/
theorem parsOut_ok {N : List Str} (R : Rel K ps F (vs.map some) H) (hN : vs.length ≤ N.length) (R' : Rel K e F' σ' H') (S : Stp (ps ++ List.replicate (N.length - ps.length) Sl.un) (L2.start N vs) F H e σ' F' H') :
    Rel K (parsOut ps e) F' (vs.map some) H' ∧ Stp ps (vs.map some) F H (parsOut ps e) (vs.map some) F' H' ∧ ∀ b, MA (parsOut ps e) (vs.map some) b → ∃ (i : Nat) (l : Bool) (c : Co), e[i]? = some (.mu false l c) ∧ σ'[i]? = some (some (.ref b)) := by
  have hl : vs.length = ps.length := by simpa using R.len
  have put : ∀ {i : Nat} {s : Sl}, ps[i]? = some s → (ps ++ List.replicate (N.length - ps.length) Sl.un)[i]? = some s := fun {i s} h => by
    rw [List.getElem?_append_left (List.getElem?_eq_some_iff.mp h).1]
    exact h
  have bor : ∀ {i : Nat} {l : Bool} {c : Co}, ps[i]? = some (.mu false l c) → σ'[i]? = (vs.map some)[i]? ∧ ∃ l' c', e[i]? = some (.mu false l' c') := fun {i l c} h => by
    obtain ⟨h1, h2⟩ := S.bor i l c (put h)
    have hi : i < vs.length := by rw [hl]; exact (List.getElem?_eq_some_iff.mp h).1
    exact ⟨by rw [h1, start_get hi], h2⟩
  have mu : ∀ {i : Nat} {w l : Bool} {c : Co}, (parsOut ps e)[i]? = some (.mu w l c) → e[i]? = some (.mu w l c) ∧ w = false ∧ σ'[i]? = (vs.map some)[i]? ∧ ∃ l0 c0, ps[i]? = some (.mu false l0 c0) := fun {i w l c} h => by
    rcases parsOut_get h with z | ⟨⟨l0, c0, h1⟩, h2⟩
    · cases z
    · obtain ⟨h3, l', c', h4⟩ := bor h1
      rw [h2] at h4
      cases h4
      exact ⟨h2, rfl, h3, l0, c0, h1⟩
  have la0 : ∀ {b}, LA (ps ++ List.replicate (N.length - ps.length) Sl.un) (L2.start N vs) b → LA ps (vs.map some) b := fun {b} ⟨i, w, c, e1, e2⟩ => by
    rcases app_un e1 with h | h
    · have hi : i < vs.length := by rw [hl]; exact (List.getElem?_eq_some_iff.mp h).1
      rw [start_get hi] at e2
      exact ⟨i, w, c, h, e2⟩
    · cases h
  have ma0 : ∀ {b}, MA (ps ++ List.replicate (N.length - ps.length) Sl.un) (L2.start N vs) b → MA ps (vs.map some) b := fun {b} ⟨i, w, l, c, e1, e2⟩ => by
    rcases app_un e1 with h | h
    · have hi : i < vs.length := by rw [hl]; exact (List.getElem?_eq_some_iff.mp h).1
      rw [start_get hi] at e2
      exact ⟨i, w, l, c, h, e2⟩
    · cases h
  refine ⟨⟨R'.le, by rw [parsOut_len, List.length_map, hl], fun i s h => ?_, fun i j w l c w' l' c' a e1 e2 s1 s2 => ?_⟩, ⟨fun b hb n => S.keep b hb fun z => n (la0 z), S.dom, fun a ha => ?_, fun a ha => ?_, fun i l c h => ?_, fun i w c h => ?_⟩, fun b hb => ?_⟩
  · rcases parsOut_get h with z | ⟨⟨l0, c0, h1⟩, h2⟩
    · subst z
      exact trivial
    · rw [← (bor h1).1]
      exact R'.sl i s h2
  · obtain ⟨h1, _, h2, _⟩ := mu e1
    obtain ⟨h3, _, h4, _⟩ := mu e2
    rw [← h2] at s1
    rw [← h4] at s2
    exact R'.ap i j w l c w' l' c' a h1 h3 s1 s2
  · obtain ⟨i, w, c, e1, e2⟩ := ha
    obtain ⟨h1, _, h2, _⟩ := mu e1
    rw [← h2] at e2
    exact (S.newL a ⟨i, w, c, h1, e2⟩).imp_left la0
  · obtain ⟨i, w, l, c, e1, e2⟩ := ha
    obtain ⟨h1, _, h2, _⟩ := mu e1
    rw [← h2] at e2
    exact (S.newM a ⟨i, w, l, c, h1, e2⟩).imp_left ma0
  · obtain ⟨_, l', c', h2⟩ := bor h
    exact ⟨rfl, l', c', parsOut_at h h2⟩
  · obtain ⟨h1, hw, _, l0, c0, h3⟩ := mu h
    obtain ⟨⟨c1, h4⟩, _⟩ := S.lkd i w c h1
    rcases app_un h4 with z | z
    · exact ⟨⟨c1, z⟩, rfl⟩
    · cases z
  · obtain ⟨i, w, l, c, e1, e2⟩ := hb
    obtain ⟨h1, hw, h2, _⟩ := mu e1
    subst hw
    rw [← h2] at e2
    exact ⟨i, l, c, h1, e2⟩
/-- a body's end as the def's -/
theorem run_ok {N : List Str} {f : Env → SRes} {W : WX} (R : Rel K ps F (vs.map some) H) (hN : vs.length ≤ N.length) (hW : ∀ cls d σ H, E cls d H → W cls d σ H) (p : FPost K ps F vs H Q E (runF N.length f ps)) :
    SPost K W (ps ++ List.replicate (N.length - ps.length) Sl.un) F (L2.start N vs) H { nx := fun _ H' => Q .non H', rt := Q } (f (ps ++ List.replicate (N.length - ps.length) Sl.un)) := by
  unfold runF at p
  cases ho : ps.all okPar with
  | false => rw [ho, if_neg Bool.false_ne_true] at p; exact p.elim
  | true =>
    rw [ho, if_pos rfl] at p
    have hl : vs.length = ps.length := by simpa using R.len
    cases hf : f (ps ++ List.replicate (N.length - ps.length) Sl.un) with
    | stuck => rw [hf] at p; exact p
    | bk e => rw [hf] at p; exact p.elim
    | ct e => rw [hf] at p; exact p.elim
    | nx e =>
      rw [hf] at p
      intro σ' F' H' R' S'
      obtain ⟨a, b, _⟩ := parsOut_ok R hN R' S'
      exact p .non F' H' a b .non
    | exc x e =>
      rw [hf] at p
      intro cls d σ' F' H' R' S' X'
      obtain ⟨a, b, _⟩ := parsOut_ok R hN R' S'
      exact hW _ _ _ _ (p cls d F' H' a b X')
    | rt r e =>
      rw [hf] at p
      intro v σ' F' H' R' S' V'
      obtain ⟨a, b, c⟩ := parsOut_ok R hN R' S'
      have R0 := R.start hN
      have hide : ∀ {q : Addr}, H q = none → hideOwn ps vs H q = none := fun {q} hq => by
        unfold hideOwn
        split
        · rfl
        · exact hq
      cases r with
      | d x => exact p v F' H' a b V'
      | fr co =>
        obtain ⟨q, o, rfl, h0, h1, h2, h3, h4⟩ := V'
        refine p _ F' H' a b ⟨q, o, rfl, hide h0, h1, h2, h3, fun z => ?_⟩
        obtain ⟨i, l, c', e1, e2⟩ := c q z
        exact h4 ⟨i, false, l, c', e1, e2⟩
      | sl i =>
        have hv : σ'[i]? = some (some v) := V'
        cases hi : e[i]? with
        | none =>
          have p' : FPost K ps F vs H Q E (match (none : Option Rv) with | some r' => .ok r' (parsOut ps e) | none => .stuck) := by simpa [retV, hi] using p
          exact p'.elim
        | some s =>
          have z := R'.sl i s hi
          cases s with
          | un => simp [retV, hi] at p; exact p.elim
          | sh d =>
            simp [retV, hi] at p
            obtain ⟨x, h1, h2⟩ := z
            rw [hv] at h1
            cases h1
            exact p _ F' H' a b h2
          | mu w l co =>
            cases w with
            | false => simp [retV, hi] at p; exact p.elim
            | true =>
              cases l with
              | true => simp [retV, hi] at p; exact p.elim
              | false =>
                simp [retV, hi] at p
                obtain ⟨q, o, h1, h2, h3, h4⟩ := z
                rw [hv] at h1
                cases h1
                refine p _ F' H' a b ⟨q, o, rfl, ?_, h2, h3, h4, fun z => ?_⟩
                · rcases S'.newM q ⟨i, true, false, co, hi, hv⟩ with ⟨j, w, l, c', e1, e2⟩ | y
                  · rcases app_un e1 with y | y
                    · have hj : j < vs.length := by rw [hl]; exact (List.getElem?_eq_some_iff.mp y).1
                      rw [start_get hj] at e2
                      cases w with
                      | false =>
                        obtain ⟨k1, l', c1, k2⟩ := S'.bor j l c' e1
                        rw [start_get hj, e2] at k1
                        have := R'.ap i j _ _ _ _ _ _ q hi k2 hv k1
                        subst this
                        rw [hi] at k2
                        cases k2
                      | true =>
                        cases l with
                        | true =>
                          have := List.all_eq_true.mp ho _ (List.mem_of_getElem? y)
                          cases this
                        | false =>
                          unfold hideOwn
                          rw [if_pos]
                          obtain ⟨v', g1, g2⟩ := mapSome e2
                          cases g2
                          exact ⟨j, c', y, g1⟩
                    · cases y
                  · exact hide y
                · obtain ⟨j, l', c', e1, e2⟩ := c q z
                  have := R'.ap i j _ _ _ _ _ _ q hi e1 hv e2
                  subst this
                  rw [hi] at e1
                  cases e1
end
section
variable {P : Program} {w : World} {K : PySem.W.Frag} {mg : Str → Option Value} {base : Heap} {x qual : Str} {params : Arguments} {body : List Stmt} {scope : Scope} {dvs : List V} {kws : List (Str × V)} {f : Addr} {fd : FuncData} {N ps : List Str} {k : Nat} {b : Env → SRes}
/-- THE DEF: its body's meaning is its own -/
theorem def_ok (Fd : FunD K x qual params body scope dvs kws f fd) (S : FnScope N ps scope)
    (hb : ∀ (cdv : Value) (A : Around) (outer : List PySem.Env) (s : Shared) (H : Hp) (E : XK), Room k (A.deeper (envOfC qual scope s.heap.objs.size f cdv)) →
      SSs (cxOf (CX P w) P w K mg base N qual scope f cdv A outer s H E) (fun cls d _ H => E cls d H) body b) : FnOk P w K mg base (CX P w) (k + 1) f fd ps (spP K ps.length (runF N.length b)) := by
  have hpl : ps.length ≤ N.length := by have := congrArg List.length S.pre; rw [List.length_take] at this; omega
  refine Fd.ok S (fun vs H Q E h => ?_) fun cdv A outer s H vs Q E hr h => ⟨_, hb cdv A outer s H E hr, ?_⟩
  · obtain ⟨sl, F, h1, h2, _⟩ := h
    have := h2.len
    simp at this
    omega
  · obtain ⟨sl, F, h1, h2, h3⟩ := h
    have hl : vs.length = sl.length := by simpa using h2.len
    exact ⟨_, F, h2.start (by omega), run_ok h2 (by omega) (fun _ _ _ _ z => z) h3⟩
end
end PL

set_option Elab.async false
set_option linter.all false
set_option maxRecDepth 100000
set_option maxHeartbeats 4000000
namespace PL
open PySem PySem.Spec PyProof.Rows L2

/-! ### f(e, .., k = v, ..) -/
def pick {α : Type} (π : List Nat) (xs : List α) : List α := π.filterMap fun i => xs[i]?
theorem pick_get {α : Type} : ∀ {π : List Nat} {xs : List α}, (∀ i ∈ π, i < xs.length) → ∀ j : Nat, (pick π xs)[j]? = π[j]?.bind fun i => xs[i]?
  | [], xs, _, j => by simp [pick]
  | p :: π, xs, h, j => by
    have hp := h p List.mem_cons_self
    have ih := pick_get (π := π) (xs := xs) (fun i hi => h i (List.mem_cons_of_mem _ hi))
    have e : pick (p :: π) xs = xs[p] :: pick π xs := by
      unfold pick
      rw [List.filterMap_cons_some (List.getElem?_eq_getElem hp)]
    rw [e]
    cases j with
    | zero => simp [List.getElem?_eq_getElem hp]
    | succ j => simpa using ih j
theorem pick_len {α : Type} : ∀ {π : List Nat} {xs : List α}, (∀ i ∈ π, i < xs.length) → (pick π xs).length = π.length
  | [], xs, _ => rfl
  | p :: π, xs, h => by
    have hp := h p List.mem_cons_self
    have ih := pick_len (π := π) (xs := xs) (fun i hi => h i (List.mem_cons_of_mem _ hi))
    have e : pick (p :: π) xs = xs[p] :: pick π xs := by
      unfold pick
      rw [List.filterMap_cons_some (List.getElem?_eq_getElem hp)]
    rw [e]
    simp [ih]
theorem Vals.pick {vs : List V} {us : List Value} (r : Vals vs us) : ∀ π : List Nat, Vals (pick π vs) (PL.pick π us)
  | [] => .nil
  | p :: π => by
    have ih := Vals.pick r π
    unfold PL.pick at ih ⊢
    cases h : vs[p]? with
    | none =>
      have h2 : us[p]? = none := by
        rw [List.getElem?_eq_none_iff] at h ⊢
        rw [← r.length]
        exact h
      rw [List.filterMap_cons_none h, List.filterMap_cons_none h2]
      exact ih
    | some v =>
      obtain ⟨u, hu, ru⟩ := r.get h
      rw [List.filterMap_cons_some h, List.filterMap_cons_some hu]
      exact .cons ru ih
def eCallK (G : List Sl → FRes) (π : List Nat) (fs : List (Env → Res Rv)) : Env → Res Rv := fun env => (eRs fs env).bind fun rs e1 => eCallR G e1 (pick π rs)
theorem eRs_app : ∀ {fs gs : List (Env → Res Rv)} {env : Env}, eRs (fs ++ gs) env = (eRs fs env).bind fun rs e1 => (eRs gs e1).bind fun qs e2 => .ok (rs ++ qs) e2
  | [], gs, env => by
    show eRs gs env = (eRs gs env).bind fun qs e2 => .ok ([] ++ qs) e2
    cases eRs gs env <;> rfl
  | f :: fs, gs, env => by
    have e1 : eRs ((f :: fs) ++ gs) env = (f env).bind fun r e1 => (eRs (fs ++ gs) e1).bind fun rs e2 => .ok (r :: rs) e2 := rfl
    have e2 : eRs (f :: fs) env = (f env).bind fun r e1 => (eRs fs e1).bind fun rs e2 => .ok (r :: rs) e2 := rfl
    rw [e1, e2]
    cases f env with
    | stuck => rfl
    | exc x e => rfl
    | ok r e1 =>
      show (eRs (fs ++ gs) e1).bind (fun rs e2 => Res.ok (r :: rs) e2) = ((eRs fs e1).bind fun rs e2 => Res.ok (r :: rs) e2).bind fun rs e1 => (eRs gs e1).bind fun qs e2 => .ok (rs ++ qs) e2
      rw [eRs_app]
      cases eRs fs e1 with
      | stuck => rfl
      | exc x e => rfl
      | ok rs e2 =>
        show ((eRs gs e2).bind fun qs e3 => Res.ok (rs ++ qs) e3).bind (fun rs e2 => Res.ok (r :: rs) e2) = (eRs gs e2).bind fun qs e3 => Res.ok (r :: rs ++ qs) e3
        cases eRs gs e2 <;> rfl
section
variable {K : PySem.W.Frag} {F H Hs H1 : Hp} {env : Env} {σ : St}
theorem RsRel.append {rs qs : List Rv} {vs zs : List V} (a : RsRel K Hs F H env σ rs vs) (b : RsRel K H1 F H env σ qs zs) (h1 : ∀ (j : Nat) c a, rs[j]? = some (.fr c) → vs[j]? = some (.ref a) → H1 a ≠ none) (d : ∀ b, Hs b ≠ none → H1 b ≠ none) : RsRel K Hs F H env σ (rs ++ qs) (vs ++ zs) := by
  induction rs generalizing vs with
  | nil =>
    cases vs with
    | nil => exact ⟨fun j r v e1 e2 => (b.each j r v e1 e2).older d, b.len, b.apart⟩
    | cons v vs => have := a.len; simp at this
  | cons r rs ih =>
    cases vs with
    | nil => have := a.len; simp at this
    | cons v vs =>
      obtain ⟨V, T⟩ := a.tail
      refine RsRel.back V (ih T fun j c q e1 e2 => h1 (j + 1) c q (by simpa using e1) (by simpa using e2)) fun c q e1 e2 j c' e3 e4 => ?_
      subst e1 e2
      have e3 : (rs ++ qs)[j]? = some (.fr c') := e3
      have e4 : (vs ++ zs)[j]? = some (.ref q) := e4
      by_cases hj : j < rs.length
      · rw [List.getElem?_append_left hj] at e3
        rw [List.getElem?_append_left (by rw [← T.len]; exact hj)] at e4
        have := a.apart 0 (j + 1) c c' q rfl (by simpa using e3) rfl (by simpa using e4)
        omega
      · rw [List.getElem?_append_right (by omega)] at e3
        rw [List.getElem?_append_right (by rw [← T.len]; omega), ← T.len] at e4
        obtain ⟨q', o, e, h0, _⟩ := b.each _ _ _ e3 e4
        cases e
        exact h1 0 c q rfl rfl h0
theorem RsRel.pick {rs : List Rv} {vs : List V} (a : RsRel K Hs F H env σ rs vs) {π : List Nat} (hπ : ∀ i ∈ π, i < rs.length) (nd : π.Nodup) : RsRel K Hs F H env σ (PL.pick π rs) (PL.pick π vs) := by
  have hπ' : ∀ i ∈ π, i < vs.length := fun i hi => by rw [← a.len]; exact hπ i hi
  refine ⟨fun j r v e1 e2 => ?_, by rw [pick_len hπ, pick_len hπ'], fun i j c c' q e1 e2 e3 e4 => ?_⟩
  · rw [pick_get hπ] at e1
    rw [pick_get hπ'] at e2
    obtain ⟨p, h1, h2⟩ := Option.bind_eq_some_iff.mp e1
    rw [h1] at e2
    exact a.each p r v h2 e2
  · rw [pick_get hπ] at e1 e2
    rw [pick_get hπ'] at e3 e4
    obtain ⟨p, h1, h2⟩ := Option.bind_eq_some_iff.mp e1
    obtain ⟨p', h3, h4⟩ := Option.bind_eq_some_iff.mp e2
    rw [h1] at e3
    rw [h3] at e4
    have e := a.apart p p' c c' q h2 h4 e3 e4
    subst e
    obtain ⟨l1, m1⟩ := List.getElem?_eq_some_iff.mp h1
    obtain ⟨l2, m2⟩ := List.getElem?_eq_some_iff.mp h3
    rcases Nat.lt_trichotomy i j with z | z | z
    · exact absurd (m1.trans m2.symm) (List.pairwise_iff_getElem.mp nd i j l1 l2 z)
    · exact z
    · exact absurd (m2.trans m1.symm) (List.pairwise_iff_getElem.mp nd j i l2 l1 z)
end
/-- keywords' values wait -/
def SKw (X : Cx) (W : WX) (kws : List Keyword) (fs : List (Env → Res Rv)) : Prop := PK X kws (tR X.K W (eRs fs))
theorem PK.imp {X : Cx} {e : List Keyword} {t t' : TA} (h : PK X e t) (i : ∀ σ H Q, t' σ H Q → t σ H Q) : PK X e t' := ⟨fun pos pins s σ H Q I q => h.run pos pins s σ H Q I (i σ H Q q)⟩
/-- how such a call binds -/
def KwB (K : PySem.W.Frag) (fd : FuncData) (ps : List Str) (n : Nat) (ks : List Str) (π : List Nat) : Prop := ∀ (s : Shared) (us ws : List Value), K.In s.heap → us.length = n → ws.length = ks.length → BindsTo s fd ⟨us, ks.zip ws⟩ (ps.zip (pick π (us ++ ws)))
theorem FunD.kw {K : PySem.W.Frag} {x qual : Str} {params : Arguments} {body : List Stmt} {scope : Scope} {kws : List (Str × V)} {f : Addr} {fd : FuncData} {ps : List Str} (F : FunD K x qual params body scope [] kws f fd) (n : Nat) (ks : List Str) (π : List Nat)
    (h : ∀ (kV doc pm : Value) (an : Option Addr) (cdv ct : Value) (us ws : List Value), us.length = n → ws.length = ks.length → bindArgs (PySem.W.fnOf x qual params body scope .none kV doc pm an cdv ct) ⟨us, ks.zip ws⟩ = pure (ps.zip (pick π (us ++ ws)))) : KwB K fd ps n ks π := by
  obtain ⟨oc, od, dV, kV, doc, pm, an, cdv, ct, osl, rfl, lk, hcd, hD, hK⟩ := F.ex
  rcases hD with ⟨_, rfl⟩ | ⟨e, _⟩
  · exact fun s us ws _ l1 l2 => .of_eq (h kV doc pm an cdv ct us ws l1 l2)
  · exact absurd rfl e
section
variable {X : Cx} {W : WX} {k n : Nat} {f : Addr} {fd : FuncData} {ps ks : List Str} {G : List Sl → FRes} {x : Str} {p pos kpos : Pos} {e : Expr} {es : List Expr} {kws : List Keyword} {fs gs : List (Env → Res Rv)} {fa : Env → Res Rv} {π : List Nat} {nm : Option Str}
theorem SKw.nil : SKw X W [] [] := by
  refine PK.imp pk_nil fun σ H Q h => ?_
  obtain ⟨env, F, R, p⟩ := h
  exact p [] F H R Stp.refl ⟨fun j r v e _ => by simp at e, rfl, fun i j c c' a e => by simp at e⟩
theorem SKw.cons (sa : SE X W e fa) (sb : SKw X W kws fs) : SKw X W (⟨nm, e, kpos⟩ :: kws) (fa :: fs) := by
  refine PK.imp (pk_cons sa sb) fun σ H Q h => ?_
  obtain ⟨env, F, R, p⟩ := h
  unfold eRs at p
  refine useE (P := RPost X.K W env F σ H Q) R p (fun z => z) (fun x e z => z) fun ra e1 x F1 H1 R1 S1 V1 p1 => ?_
  refine ⟨e1, F1, R1, ?_⟩
  cases h3 : eRs fs e1 with
  | stuck => rw [h3] at p1; exact p1
  | exc z e3 =>
    rw [h3] at p1
    exact fun c d F' H' R' S' X' => p1 c d F' H' R' (S1.trans S') X'
  | ok ds e3 =>
    rw [h3] at p1
    refine fun vs F' H' R' S' r => p1 (x :: vs) F' H' R' (S1.trans S') (RsRel.cons (V1.wait R1 S') (fun c a er ev => ?_) S1.dom r)
    subst er
    obtain ⟨b, o, e, q0, q1, q2, _⟩ := V1
    rw [ev] at e
    cases e
    rw [q2]
    simp
theorem use_kw {σ : St} {H : Hp} {Q : VK} {m : Nat} (hπ : ∀ i ∈ π, i < fs.length + gs.length) (nd : π.Nodup) (hm : π.length = m) (h : tE X.K W (eCallK G π (fs ++ gs)) σ H Q) :
    tR X.K W (eRs fs) σ H fun vs H1 => tR X.K W (eRs gs) σ H1 fun zs H2 => vs.length = fs.length ∧ zs.length = gs.length ∧ spP X.K m G (pick π (vs ++ zs)) H2 Q (fun cls d H => W cls d σ H) := by
  obtain ⟨env, F, R, p⟩ := h
  unfold eCallK at p
  rw [eRs_app] at p
  refine ⟨env, F, R, ?_⟩
  cases h3 : eRs fs env with
  | stuck => rw [h3] at p; exact p
  | exc z e3 => rw [h3] at p; exact p
  | ok rs e1 =>
    rw [h3] at p
    intro vs F1 H1 R1 S1 RR
    have p : EPost X.K W env F σ H Q (((eRs gs e1).bind fun qs e2 => Res.ok (rs ++ qs) e2).bind fun rs e1 => eCallR G e1 (pick π rs)) := p
    refine ⟨e1, F1, R1, ?_⟩
    cases h4 : eRs gs e1 with
    | stuck => rw [h4] at p; exact p
    | exc z e3 =>
      rw [h4] at p
      exact fun c d F' H' R' S' X' => p c d F' H' R' (S1.trans S') X'
    | ok qs e2 =>
      rw [h4] at p
      intro zs F2 H2 R2 S2 RR2
      have l1 := eRs_length h3
      have l2 := eRs_length h4
      have RR' : RsRel X.K H F2 H2 e2 σ rs vs := ⟨fun j r v a b => (RR.each j r v a b).wait R1 S2, RR.len, RR.apart⟩
      have A : RsRel X.K H F2 H2 e2 σ (rs ++ qs) (vs ++ zs) := RR'.append RR2 (fun j c a e3 e4 => by
        obtain ⟨b, o, e, _, _, q2, _⟩ := RR.each j _ _ e3 e4
        cases e
        rw [q2]
        simp) S1.dom
      have hπ' : ∀ i ∈ π, i < (rs ++ qs).length := fun i hi => by rw [List.length_append, l1, l2]; exact hπ i hi
      refine ⟨by rw [← RR.len, l1], by rw [← RR2.len, l2], ?_⟩
      exact callR_ok (by rw [pick_len hπ', hm]) R2 (S1.trans S2) (A.pick hπ' nd) p
theorem run_kw {pins : List (Addr × Obj)} {σ : St} {H : Hp} {s : Shared} {Q : VK} {us ws : List Value} {vs zs : List V} {sp : Sp} (F : FnOk X.prog X.w X.K X.mg X.base (L2.CX X.prog X.w) k f fd ps sp) (hr : Room k X.A) (hb : KwB X.K fd ps n ks π) (tk : Takes X W)
    (I : Inv X pins σ H s) (r : Vals vs us) (rz : Vals zs ws) (l1 : vs.length = n) (l2 : zs.length = ks.length) (h : sp (pick π (vs ++ zs)) H Q (fun cls d H => W cls d σ H)) : wpAny (model X.prog X.w) X.A (call (.ref f) us (ks.zip ws)) (EP X pins σ Q) X.xe s := by
  have r2 := Vals.pick (r.append rz) π
  refine wpAny_call (codeAny_mono (F.run X.A X.stack s H ⟨us, ks.zip ws⟩ _ _ Q _ hr I.env0 (hb s us ws I.kIn (by rw [← r.length]; exact l1) (by rw [← rz.length]; exact l2)) r2 h) fun r s' hq => ?_)
  cases r with
  | error e => exact passAt tk σ pins H s e s' I hq
  | ok fl =>
    cases fl with
    | ret u => exact I.after hq
    | next => exact False.elim hq
    | brk => exact False.elim hq
    | cont => exact False.elim hq
/-- f(k = v, ..) -/
theorem SE.callK0 {m : Nat} (F : FnOk X.prog X.w X.K X.mg X.base (L2.CX X.prog X.w) k f fd ps (spP X.K m G)) (hr : Room k X.A) (hg : Gl X x) (hm : X.mg x = some (.ref f)) (hk : PySem.W.keepIn X.K (.ref f) = true) (hb : KwB X.K fd ps 0 ks π) (tk : Takes X W)
    (hkw : SKw X W kws gs) (hn : gs.length = ks.length := by rfl) (hπ : (π.all fun i => decide (i < gs.length)) = true := by decide) (nd : π.Nodup := by decide) (hl : π.length = m := by rfl)
    (hall : (backToKw pos (keywordEach kws X.env)).all (·.1.isSome) = true := by rfl) (hks : (backToKw pos (keywordEach kws X.env)).filterMap (·.1) = ks := by rfl) (hdb : (x == ("__debug__" : Str)) = false := by decide)
    (hpl : ((backTo pos (starEach [] X.env)).any (·.1) || (backToKw pos (keywordEach kws X.env)).any (·.1.isNone)) = false := by rfl) : SE X W (.Call (.Name x p) [] kws pos) (eCallK G π gs) := by
  refine ⟨fun pins s σ H Q I h => ?_⟩
  refine wpAny_Call_Name_kw (ld_glob I hg hm ?_ hdb)
  refine PySem.W.callWith_KW0 (h₀ := X.base) I.ok.mod.kin hk hall ?_ hpl
  have h' := use_kw (fs := []) (gs := gs) (fun i hi => by have := List.all_eq_true.mp hπ i hi; simpa using this) nd hl h
  obtain ⟨env, F0, R, p⟩ := h'
  have q := p [] F0 H R Stp.refl ⟨fun j r v e _ => by simp at e, rfl, fun i j c c' a e => by simp at e⟩
  refine thn (hkw.run pos pins s σ H _ I q) fun ws s2 ⟨zs, H2, I2, rz, l1, l2, q2⟩ => ⟨I2.kIn, ?_⟩
  rw [hks]
  exact run_kw (us := []) (vs := []) F hr hb tk I2 .nil rz rfl (l2.trans hn) q2
/-- f(e, .., k = v, ..) -/
theorem SE.callK {m : Nat} (F : FnOk X.prog X.w X.K X.mg X.base (L2.CX X.prog X.w) k f fd ps (spP X.K m G)) (hr : Room k X.A) (hg : Gl X x) (hm : X.mg x = some (.ref f)) (hk : PySem.W.keepIn X.K (.ref f) = true) (hb : KwB X.K fd ps n ks π) (tk : Takes X W)
    (ha : SR X W (e :: es) fs) (hkw : SKw X W kws gs) (hn0 : fs.length = n := by rfl) (hn : gs.length = ks.length := by rfl) (hπ : (π.all fun i => decide (i < fs.length + gs.length)) = true := by decide) (nd : π.Nodup := by decide) (hl : π.length = m := by rfl)
    (hall : (backToKw pos (keywordEach kws X.env)).all (·.1.isSome) = true := by rfl) (hks : (backToKw pos (keywordEach kws X.env)).filterMap (·.1) = ks := by rfl)
    (hdb : (x == ("__debug__" : Str)) = false := by decide) (he : starEach (e :: es) X.env = (false, eval e X.env) :: starEach es X.env := by rfl)
    (hpl : ((backTo pos (starEach (e :: es) X.env)).any (·.1) || (backToKw pos (keywordEach kws X.env)).any (·.1.isNone)) = false := by rfl) : SE X W (.Call (.Name x p) (e :: es) kws pos) (eCallK G π (fs ++ gs)) := by
  refine ⟨fun pins s σ H Q I h => ?_⟩
  refine wpAny_Call_Name_kw (ld_glob I hg hm ?_ hdb)
  have h' := use_kw (fs := fs) (gs := gs) (fun i hi => by have := List.all_eq_true.mp hπ i hi; simpa using this) nd hl h
  refine PySem.W.callWith_KW (h₀ := X.base) I.ok.mod.kin hk hall (thn (ha.run pos pins s σ H _ I h') fun us s1 ⟨vs, H1, I1, r, q⟩ => ?_) hpl he
  refine thn (hkw.run pos pins s1 σ H1 _ I1 q) fun ws s2 ⟨zs, H2, I2, rz, l1, l2, q2⟩ => ⟨I2.kIn, ?_⟩
  rw [hks]
  exact run_kw F hr hb tk I2 r rz (l1.trans hn0) (l2.trans hn) q2
end
end PL

set_option Elab.async false
set_option linter.all false
set_option maxRecDepth 100000
set_option maxHeartbeats 4000000
namespace PL
open PySem PySem.Spec PyProof.Rows L2
theorem takes_no {X : Cx} : Takes X W0 := fun u s' x => by
  obtain ⟨a, B, sI, pins, σ, H, cls, d, e, I, nb, up, sky, na, os, ag, w⟩ := x
  exact w.elim
theorem u1 {k : Nat} {A : Around} (r : Room k A) : A.units + 1 < cLine := by have := r.un; omega
theorem u64 {k : Nat} {A : Around} (r : Room k A) : A.units + 64 < cLine := by have := r.un; omega
theorem u65 {k : Nat} {A : Around} (r : Room k A) : A.units + 65 < cLine := by have := r.un; omega
/-- BlkOk, looked up -/
def blkB (N : List Str) (sc scope : Scope) (own : List (Str × Nat)) : Bool :=
  (scope.kind == .function) && ((scope.names.all fun y => scope.names.lookup y.1 == some y.2) && ((own.all fun p => N[p.2]? == some p.1) &&
    ((scope.names.all fun y => !(y.2 == .free) || (sc.names.lookup y.1 == some .cell || sc.names.lookup y.1 == some .free)) &&
      (scope.names.all fun y => !(y.2 == .local || y.2 == .cell) || ((own.map (·.1)).contains y.1 || !N.contains y.1)))))
theorem blk_of {N : List Str} {sc scope : Scope} {own : List (Str × Nat)} (h : blkB N sc scope own = true) : BlkOk N sc scope own := by
  simp only [blkB, Bool.and_eq_true] at h
  obtain ⟨h1, h2, h3, h4, h5⟩ := h
  refine ⟨eq_of_beq h1, fun y hy => eq_of_beq (List.all_eq_true.mp h2 y hy), fun p hp => eq_of_beq (List.all_eq_true.mp h3 p hp), fun y hy hf => ?_, fun y hy hf => ?_⟩
  · have := List.all_eq_true.mp h4 y hy
    rw [hf] at this
    simpa using this
  · have := List.all_eq_true.mp h5 y hy
    have e : (y.2 == NameKind.local || y.2 == NameKind.cell) = true := by
      rcases hf with z | z <;> (rw [z]; rfl)
    rw [e] at this
    simp only [Bool.not_true, Bool.false_or, Bool.or_eq_true, Bool.not_eq_true', List.contains_eq_mem, decide_eq_true_eq, decide_eq_false_iff_not] at this
    exact this
end PL

set_option Elab.async false
set_option linter.all false
set_option maxRecDepth 100000
set_option maxHeartbeats 4000000
/-! own exceptions over Exception: super().__init__(text), fields -/
namespace PXE
open PySem PySem.Spec PyProof.Rows L2
abbrev exT : List Value := PySem.ESX.exTail
section
open PySem.W Builtin Builtin.ObjectAttr
variable {prog : Program} {w : World} {A : Around} {E : Value → Shared → Prop} {R : Result → Shared → Prop} {hp : Heap} {g : Array GenState} {d : Drawn} {t : Nat} {os : OsState} {K : Frag} {x C t1 dx : Addr} {name : Str} {tk : Tok} {v : Value}
theorem osa0 (X : K.In hp) (hx : hp.get? x = some (excObj C t1 none .none)) (ho : excOver K C exT = true) (ht : takerIn K C name = some none) (hh : hasDictIn K C = true)
    (hq : ∀ h' tk' dx, (∀ b o, b ≠ x → hp.get? b = some o → h'.get? b = some o) → hp.objs.size ≤ dx → dx ≠ x → h'.get? x = some (excObj C t1 (some dx) .none) →
      h'.Ns1 dx (fun y => if y = name then some v else none) → R (.ok (.ret .none)) ⟨h', g, d, tk', os⟩) :
    codeAny (model prog w) A (.call (.builtin "object.__setattr__") ⟨[.ref x, .str name tk, v], []⟩) R ⟨hp, g, d, t, os⟩ := by
  refine osa_openX (od := none) F.store_Exception X ⟨hx, rfl, rfl, trivial⟩ ho ht fun b => ?_
  obtain ⟨cd, hc, hd⟩ := any_some hh
  have lt : x < hp.objs.size := Heap.lt_size hx
  have ne : x ≠ hp.objs.size := Nat.ne_of_lt lt
  have new1 : (hp.push (dictOf [] 0)).get? x = some (excObj C t1 none .none) := Heap.get?_push_of_some _ hx
  refine wpAny_bind (wpAny_pure (wpAny_bind ?_))
  refine instanceDict_exc hx (looks_clsIn X hc) hd ?_
  show wpAny _ _ (storeInDict hp.objs.size (.str name tk) name v) _ _ _
  refine PySem.HandSPX.store_in_new ?_ fun h' tk' hn hs => ?_
  · exact ⟨dictOf [] 0, #[], 0, (Heap.get?_update_ne _ _ _ _ (Ne.symm ne)).trans (Heap.get?_push_at rfl rfl), rfl, fun e he => absurd he (by simp), fun _ => rfl⟩
  · refine hq h' tk' hp.objs.size (fun b o hb ho => ?_) (Nat.le_refl _) (Ne.symm ne) ((hs.2 x ne).trans (Heap.get?_update_self _ new1 rfl)) hn
    have lb : b ≠ hp.objs.size := Nat.ne_of_lt (Heap.lt_size ho)
    rw [hs.2 b lb, Heap.get?_update_ne _ _ _ _ hb]
    exact Heap.get?_push_of_some _ ho
theorem osa1 {m0 : Str → Option Value} {ns : List Str} (X : K.In hp) (hx : hp.get? x = some (excObj C t1 (some dx) .none)) (hn : hp.Ns1 dx m0) (hw : Within m0 ns) (hz : ns.length ≤ 1000) (ho : excOver K C exT = true) (ht : takerIn K C name = some none) (hh : hasDictIn K C = true)
    (hq : ∀ h' tk', (∀ b o, b ≠ dx → hp.get? b = some o → h'.get? b = some o) → h'.Ns1 dx (fun y => if y = name then some v else m0 y) → R (.ok (.ret .none)) ⟨h', g, d, tk', os⟩) :
    codeAny (model prog w) A (.call (.builtin "object.__setattr__") ⟨[.ref x, .str name tk, v], []⟩) R ⟨hp, g, d, t, os⟩ := by
  obtain ⟨oD, _, _, hD, _, _⟩ := hn.count hw
  refine osa_openX (od := some oD) F.store_Exception X ⟨hx, rfl, rfl, hD⟩ ho ht fun b => ?_
  obtain ⟨cd, hc, hd⟩ := any_some hh
  refine wpAny_bind (wpAny_pure (wpAny_bind (wpAny_bind (wpAny_loadPart hx (wpAny_bind ?_)))))
  refine (looks_clsIn X hc).at ?_
  rw [hd]
  refine wpAny_pure (a := some dx) ?_
  refine PySem.ESX.store_in_old hn hw hz fun h' tk' h1 hs => ?_
  exact hq h' tk' (fun b o hb hbo => (hs.2 b hb).trans hbo) h1
end
end PXE

set_option Elab.async false
set_option linter.all false
set_option maxRecDepth 100000
set_option maxHeartbeats 4000000
/-! super().__init__(text) in the __init__ of an own exception; its fields -/
namespace PXE
open PySem PySem.Spec PyProof.Rows L2
/-- what the written part must say of the class at C -/
structure XC (K : PySem.W.Frag) (C : Addr) : Prop where
  ini : PySem.W.excInitIn K C exT "Exception.__new__" = true
  ov : PySem.W.excOver K C exT = true
  sa : PySem.W.findIn K (.ref C) "__setattr__" = some (some (.builtin "object.__setattr__"))
  hd : PySem.W.hasDictIn K C = true
  exC : PySem.W.subIn K (.ref C) (.type "BaseException") = some true
  exE : PySem.W.subIn K (.ref C) (.type "Exception") = some true
  own : PySem.W.mroIn K C (.ref C) = some true
  tyC : PySem.W.typeIn K (.ref C) = some (.type "type")
  kC : PySem.W.keepIn K (.ref C) = true
  ga : PySem.W.findIn K (.ref C) "__getattribute__" = some (some (.builtin "BaseException.__getattribute__"))
  gg : PySem.W.findIn K (.ref C) "__getattr__" = some none
  sup : PySem.W.ks_superIn K C C "__init__" = some (some (.builtin "Exception.__init__"))
  opq : PySem.W.nsIn K cStatics "thirdparty.any" = some none
def xcB (K : PySem.W.Frag) (C : Addr) : Bool := PySem.W.excInitIn K C exT "Exception.__new__" && (PySem.W.excOver K C exT && (decide (PySem.W.findIn K (.ref C) "__setattr__" = some (some (.builtin "object.__setattr__"))) && (PySem.W.hasDictIn K C &&
  (decide (PySem.W.subIn K (.ref C) (.type "BaseException") = some true) && (decide (PySem.W.subIn K (.ref C) (.type "Exception") = some true) && (decide (PySem.W.mroIn K C (.ref C) = some true) && (decide (PySem.W.typeIn K (.ref C) = some (.type "type")) && (PySem.W.keepIn K (.ref C) &&
  (decide (PySem.W.findIn K (.ref C) "__getattribute__" = some (some (.builtin "BaseException.__getattribute__"))) && (decide (PySem.W.findIn K (.ref C) "__getattr__" = some none) && (decide (PySem.W.ks_superIn K C C "__init__" = some (some (.builtin "Exception.__init__"))) && decide (PySem.W.nsIn K cStatics "thirdparty.any" = some none))))))))))))
theorem xcB_ok {K : PySem.W.Frag} {C : Addr} (h : xcB K C = true) : XC K C := by
  unfold xcB at h
  simp only [Bool.and_eq_true, decide_eq_true_eq] at h
  obtain ⟨h1, h2, h3, h4, h5, h6, h7, h8, h9, h10, h11, h12, h13⟩ := h
  exact ⟨h1, h2, h3, h4, h5, h6, h7, h8, h9, h10, h11, h12, h13⟩
section
variable {X : Cx} {pins : List (Addr × Obj)} {σ : L2.St} {H : Hp} {s : Shared} {a C dx : Addr} {f : Str} {y : V} {u : Value} {fs : List (Str × V)} {E : Value → Shared → Prop} {A : Around}
theorem eq_upd {o : HO} (e : H a = some o) : upd H a o = H := by
  funext b
  by_cases hb : b = a
  · rw [hb, upd_same, e]
  · rw [upd_ne hb]
/-- the first field -/
theorem fld0 {Q : Unit → Shared → Prop} (T : XC X.K C) (I : Inv X pins σ H s) (e : H a = some (exo a C none)) (ht : PySem.W.takerIn X.K C f = some none) (ry : RelV y u)
    (h : ∀ dx s', H dx = none → dx ≠ a → Inv X pins σ (upd (upd H dx (exd dx [(f, y)])) a (exo a C (some dx))) s' → Q () s') : wpAny (model X.prog X.w) A (setAttr (.ref a) f u) Q E s := by
  obtain ⟨t1, ho⟩ := exo_at I.hok e
  obtain ⟨hp, g, d, t, os⟩ := s
  refine PySem.W.set_plain I.kIn (ox := PySem.W.excObj C t1 none .none) (od := none) ⟨ho, rfl, rfl, trivial⟩ T.sa ?_
  refine osa0 I.kIn ho T.ov ht T.hd fun h' tk' dx k dn dne hx hn => ?_
  have hnd : H dx = none := I.hok.fresh dn
  have g1 : (h'.update a fun _ => PySem.W.excObj C t1 none .none).get? a = some (PySem.W.excObj C t1 none .none) := Heap.get?_update_self _ hx rfl
  have g2 : ∀ b, b ≠ a → (h'.update a fun _ => PySem.W.excObj C t1 none .none).get? b = h'.get? b := fun b hb => Heap.get?_update_ne _ _ _ _ hb
  have J1 := I.laid (t' := tk') (a := dx) (o := exd dx [(f, y)]) (h' := h'.update a fun _ => PySem.W.excObj C t1 none .none) (fun b o q => by
    by_cases hb : b = a
    · subst hb
      rw [g1, ← q]
      exact ho.symm
    · rw [g2 b hb]
      exact k b o hb q) dn (exd_ok (hn.at fun o q => (g2 dx dne).trans q) (relO_put (fs := []) ry fun _ => True.intro))
  have J2 := J1.write (t' := tk') (x := a) (e := a) (o := exo a C (some dx)) (h' := h') (by rw [upd_ne (Ne.symm dne), e]; exact True.intro) (.inl rfl) (fun b o hb q => by rw [← g2 b hb]; exact q) ⟨_, hx⟩ (exo_ok hx)
  exact h dx _ hnd dne J2
/-- a further one -/
theorem fld1 {Q : Unit → Shared → Prop} (T : XC X.K C) (I : Inv X pins σ H s) (e : H a = some (exo a C (some dx))) (ed : H dx = some (exd dx fs)) (hl : fs.length ≤ 900) (ht : PySem.W.takerIn X.K C f = some none) (ry : RelV y u)
    (h : ∀ s', Inv X pins σ (upd H dx (exd dx ((f, y) :: fs))) s' → Q () s') : wpAny (model X.prog X.w) A (setAttr (.ref a) f u) Q E s := by
  obtain ⟨t1, ho⟩ := exo_at I.hok e
  obtain ⟨mA, hns, rel⟩ := exd_at I.hok ed
  have hw := within_of rel
  obtain ⟨hp, g, d, t, os⟩ := s
  obtain ⟨oD, _, _, hD, _, _⟩ := hns.count hw
  refine PySem.W.set_plain I.kIn (ox := PySem.W.excObj C t1 (some dx) .none) (od := some oD) ⟨ho, rfl, rfl, hD⟩ T.sa ?_
  refine osa1 I.kIn ho hns hw (by rw [List.length_map]; omega) T.ov ht T.hd fun h' tk' k hn => ?_
  have there : ∃ o, h'.get? dx = some o := by
    obtain ⟨o, _, _, q, _⟩ := hn
    exact ⟨o, q⟩
  exact h _ (I.write (t' := tk') (x := dx) (e := dx) (o := exd dx ((f, y) :: fs)) (by rw [ed]; exact True.intro) (.inl rfl) k there (exd_ok hn (relO_put ry rel)))
end
/-- what the frame of __init__ must be for super() -/
structure SupE (X : Cx) (C f cda cc : Addr) (n0 : Str) : Prop where
  ks : X.env.kindOf "super" = some .globalImplicit
  kc : X.env.kindOf "__class__" = some .free
  k0 : X.env.kindOf n0 = some .local
  nz : X.N[0]? = some n0
  fu : X.env.func = some f
  lf : ∃ oc od fd osl ar, X.K.lookup f = some ⟨oc, od, .func fd, osl⟩ ∧ (fd.params.posonlyargs ++ fd.params.args).head? = some ar ∧ ar.arg = n0
  co : X.env.code = .ref cda
  lc : ∃ oc od vs osl file tf, X.K.lookup cda = some ⟨oc, od, .fields vs, osl⟩ ∧ vs[2]? = some (.str file tf) ∧ ((X.prog.main.file : Str) == file) = true
  cel : X.env.cells.lookup ("__class__" : Str) = some cc
  lcc : ∃ oc od osl, X.K.lookup cc = some ⟨oc, od, .cell (some (.ref C)), osl⟩
  ms : X.mg "super" = none
  top : (X.prog.main.scope.names.lookup ("super" : Str)).isSome = false
section
variable {X : Cx} {pins : List (Addr × Obj)} {σ : L2.St} {H : Hp} {s : Shared} {a C f cda cc : Addr} {n0 txt : Str} {body : List Stmt} {p0 p1 p2 p3 p4 p5 : Pos} {j : Nat} {pl : Sem Bool}
theorem super_stmt {E : Value → Shared → Prop} {Q : Flow → Shared → Prop} (T : XC X.K C) (S : SupE X C f cda cc n0) (I : Inv X pins σ H s) (ea : H a = some (exo a C none)) (hσ : σ[0]? = some (some (.ref a))) (h : ∀ s', Inv X pins σ H s' → Q .next s')
    (he : eval (.Call (.Attribute (.Call (.Name "super" p0) [] [] p1) "__init__" p2) [.Constant (.str txt) j p3] [] p4) X.env = (do
      let ov ← attributeBase (.Call (.Name "super" p0) [] [] p1) "__init__" X.env (eval (.Call (.Name "super" p0) [] [] p1) X.env)
      standAt p2.atName
      let (f, first) ← holding [ov] (getMethod ov "__init__" pl)
      callWith p4 f first (backTo p4 (starEach [.Constant (.str txt) j p3] X.env)) [])) :
    PySem.wpAt (model X.prog X.w) X.A (.func body X.env) (exec (.Expr (.Call (.Attribute (.Call (.Name "super" p0) [] [] p1) "__init__" p2) [.Constant (.str txt) j p3] [] p4) p5) X.env) Q E s := by
  obtain ⟨foc, fod, fd, fos, ar, lf, hp, har⟩ := S.lf
  obtain ⟨coc, cod, vs, cos, file, tf, lc, hvs, hfile⟩ := S.lc
  obtain ⟨xoc, xod, xos, lcc⟩ := S.lcc
  obtain ⟨mb, b1, b2⟩ := I.mod.blt
  subst har
  obtain ⟨m, hn, hl⟩ := I.loc
  obtain ⟨u, ru, hu⟩ := hl 0 _ _ S.nz hσ (.inl S.k0)
  obtain ⟨nm, N', qn, bs, bm, hdct, sn, sub, ab, col, dd, k0, k1, k2, k3, k5, hC, _⟩ := PySem.W.excInit_of I.kIn T.ini
  obtain ⟨t1, ho⟩ := exo_at I.hok ea
  obtain ⟨hp', g, d, t, os⟩ := s
  refine ks_wpAt_Expr_any (ks_wpAt_MethodCall (ks_wpAt_super_base S.ks S.kc (by decide) S.fu (I.kIn _ _ lf) rfl hp S.co (I.kIn _ _ lc) rfl hvs hfile S.top ?_) he) I.quiet rfl
  refine PySem.W.ks_loadName_global I.ok.kind S.ks (Calls.loadGlobal_builtin (by rw [I.ok.glob]; exact I.mod.glob.keeps I.bk) S.ms (by rw [I.ok.blt]; exact b1.keeps I.bk) ((b2 _ (by decide)).trans PyProof.Rows.Boot.«super») ⟨rfl, ?_⟩)
  refine wpAny_loadName_free I.ok.kind S.kc S.cel ⟨_, I.kIn _ _ lcc, rfl⟩ ?_
  have hmn : m ar.arg = some (.ref a) := by
    obtain rfl : u = Value.ref a := ru
    rcases hu with ⟨_, q⟩ | ⟨q, _⟩
    · exact q
    · rcases q with q | q
      · exact absurd (q.symm.trans S.k0) (by decide)
      · exact absurd (q.symm.trans S.k0) (by decide)
  refine wpAny_loadName_local I.ok.kind S.k0 hn hmn ?_
  have cls0 : ∃ cdC, PySem.W.clsIn X.K C = some cdC := by
    have q := T.sup
    unfold PySem.W.ks_superIn at q
    cases z : PySem.W.clsIn X.K C with
    | none => rw [z] at q; cases q
    | some cdC => exact ⟨cdC, rfl⟩
  obtain ⟨cdC, hcd⟩ := cls0
  have hD : ∃ oD, hp'.get? C = some oD ∧ oD.data = .cls cdC := by
    unfold PySem.W.clsIn at hcd
    split at hcd
    · rename_i c d' cd' sl q
      cases hcd
      exact ⟨_, I.kIn _ _ q, rfl⟩
    · cases hcd
  obtain ⟨oD, hD1, hD2⟩ := hD
  refine ks_wpAny_isType_cls hD1 hD2 ⟨rfl, ?_⟩
  refine ks_wpAny_call_super hD1 hD2 ho rfl (fun c e => by cases e) (PySem.W.looks_mroIn I.kIn T.own) (fun h1 e1 k1 => ?_)
  have hxC : a ≠ C := by
    rintro rfl
    have z := hD1
    rw [ho] at z
    cases z
    cases hD2
  have hin : PySem.W.Looks (model X.prog X.w) h1 (isInstance (.ref a) (.type "Exception")) true := by
    have IA : PySem.W.InstAt h1 a (PySem.W.excObj C t1 none .none) C none := ⟨k1 _ _ ho, rfl, rfl, trivial⟩
    exact IA.type.andThen (PySem.W.looks_subIn (I.kIn.keeps k1) T.exE)
  have hal : PySem.W.alongIn X.K "__init__" ((cdC.mro.dropWhile (· != .ref C)).drop 1) = some (some (.builtin "Exception.__init__")) := by
    have q := T.sup
    unfold PySem.W.ks_superIn at q
    rw [hcd] at q
    exact q
  refine PySem.ESX.getMethod_super e1 (PySem.W.looks_opaque (I.kIn.keeps k1) T.opq) (l₀ := cdC.mro) (fun A Q E s k q => wpAny_bind ((PySem.W.looks_clsIn (I.kIn.keeps k1) hcd) A _ E s k (wpAny_pure q))) rfl (I.kIn.keeps k1) hal hxC (by decide) hin ?_
  have k2 : ∀ b o, hp'.get? b = some o → (h1.push (PySem.ESX.bw a)).get? b = some o := fun b o q => Heap.get?_push_of_some _ (k1 b o q)
  have bwA : (h1.push (PySem.ESX.bw a)).get? h1.objs.size = some (PySem.ESX.bw a) := Heap.get?_push_at rfl rfl
  have sz : hp'.objs.size ≤ h1.objs.size := Nat.le_of_lt (Heap.lt_size e1)
  have I2 : Inv X pins σ H ⟨h1.push (PySem.ESX.bw a), g, d, t + 1, os⟩ := I.kept (t' := t + 1) k2
  have I3 : Inv X ([(h1.objs.size, PySem.ESX.bw a)] ++ pins) σ H ⟨h1.push (PySem.ESX.bw a), g, d, t + 1, os⟩ := I2.pins_of fun p hp => by
    rcases List.mem_append.mp hp with z | z
    · rw [List.mem_singleton.mp z]
      exact ⟨bwA, I.hok.fresh sz, fun z => absurd I.lt (by rw [← z]; exact Nat.not_lt.mpr sz), I.nofs sz, fun v z => by cases z⟩
    · exact I2.pin p (List.mem_append_right _ z)
  have pa : PA X [.Constant (.str txt) j p3] (tCons (tC (.str txt)) tNil) := pa_cons pe_str pa_nil
  refine PySem.ESX.callWith_bound (x := a) (first := []) (thn (pa.run p4 _ ⟨h1.push (PySem.ESX.bw a), g, d, t + 1, os⟩ σ H (fun vs H1 => vs = [V.str txt] ∧ H = H1) I3 ⟨rfl, rfl⟩) fun us s2 hh => ?_)
  obtain ⟨ws, H4, I4, r4, rfl, rfl⟩ := hh
  have pin := (I4.pin (h1.objs.size, PySem.ESX.bw a) (List.mem_append_right _ (List.mem_append_left _ (List.mem_singleton.mpr rfl)))).1
  refine ⟨pin, ?_⟩
  obtain ⟨t4, ho4⟩ := exo_at I4.hok ea
  obtain ⟨nm4, N4, qn4, bs4, bm4, hdct4, sn4, sub4, ab4, col4, dd4, w0, w1, w2, w3, w5, hC4, _⟩ := PySem.W.excInit_of I4.kIn T.ini
  have lus : us.length = 1 := (Paired.length r4).symm
  obtain ⟨h4, g4, d4, tk4, os4⟩ := s2
  refine PySem.ESX.call_bw hC4 ho4 pin (by show ([] ++ us).length ≤ sizeLine; rw [List.nil_append, lus, sizeLine_eq]; omega) fun h5 t5 k5 hx5 => ?_
  have J := I4.write (t' := tk4) (x := a) (e := a) (o := exo a C none) (by rw [ea]; exact True.intro) (.inl rfl) k5 ⟨_, hx5⟩ (exo_ok hx5)
  rw [eq_upd ea] at J
  exact h _ (J.pins_of fun p hp => J.pin p (List.mem_append_right _ (List.mem_append_right _ hp)))
end
end PXE

set_option Elab.async false
set_option linter.all false
set_option maxRecDepth 100000
set_option maxHeartbeats 4000000
/-! the __init__ of an own exception as a function that keeps its promise -/
namespace PXE
open PySem PySem.Spec PyProof.Rows L2
/-- self.f = f, for each of these -/
inductive FldSts : List Str → List Stmt → Prop
  | nil : FldSts [] []
  | cons {f : Str} {fs : List Str} {sts : List Stmt} {q1 q2 p' pos : Pos} : FldSts fs sts → FldSts (f :: fs) (.Assign [.Attribute (.Name "self" q1) f p'] (.Name f q2) pos :: sts)
def Hfin (H : Hp) (a C dx : Addr) (l : List (Str × V)) : Hp := upd (upd H dx (exd dx l)) a (exo a C (some dx))
theorem fin_upd {H : Hp} {a C dx : Addr} {l l' : List (Str × V)} (ne : dx ≠ a) : upd (Hfin H a C dx l) dx (exd dx l') = Hfin H a C dx l' := by
  funext b
  unfold Hfin
  by_cases h1 : b = dx
  · subst h1
    rw [upd_same, upd_ne ne, upd_same]
  · rw [upd_ne h1]
    by_cases h2 : b = a
    · subst h2
      rw [upd_same, upd_same]
    · rw [upd_ne h2, upd_ne h2, upd_ne h1, upd_ne h1]
theorem fin_a {H : Hp} {a C dx : Addr} {l : List (Str × V)} : Hfin H a C dx l a = some (exo a C (some dx)) := upd_same
theorem fin_d {H : Hp} {a C dx : Addr} {l : List (Str × V)} (ne : dx ≠ a) : Hfin H a C dx l dx = some (exd dx l) := by
  unfold Hfin
  rw [upd_ne ne, upd_same]
section
variable {X : Cx} {pins : List (Addr × Obj)} {σ : L2.St} {H : Hp} {s : Shared} {a C dx : Addr} {f : Str} {y : V}
theorem asg_fld {i : Nat} {q1 q2 p' pos : Pos} {Q : Flow → Shared → Prop} (I : Inv X pins σ H s) (hN0 : X.N[0]? = some ("self" : Str)) (h0 : σ[0]? = some (some (.ref a))) (v0 : Vis X.env.scope "self") (hNi : X.N[i]? = some f) (hi : σ[i]? = some (some y)) (vi : Vis X.env.scope f)
    (d1 : (f == ("__debug__" : Str)) = false) (d2 : (f == ("__classdict__" : Str)) = false) (h : ∀ u s1, Inv X pins σ H s1 → RelV y u → wpAny (model X.prog X.w) X.A (setAttr (.ref a) f u) (fun _ => Q .next) X.xe s1) :
    wpAny (model X.prog X.w) X.A (exec (.Assign [.Attribute (.Name "self" q1) f p'] (.Name f q2) pos) X.env) Q X.xe s := by
  refine plainObj_wpAny_Assign_Attribute (thn ((pe_var hNi vi d1 d2).run pins s σ H (fun x H1 => x = y ∧ H = H1) I ⟨y, hi, rfl, rfl⟩) fun u s1 hh => ?_) rfl
  obtain ⟨x, H1, I1, r1, rfl, rfl⟩ := hh
  refine thn ((pe_var hN0 v0).run pins s1 σ _ (fun z H2 => z = V.ref a ∧ H = H2) I1 ⟨_, h0, rfl, rfl⟩) fun u2 s2 hh => ?_
  obtain ⟨z, H2, I2, r2, rfl, rfl⟩ := hh
  obtain rfl : u2 = Value.ref a := r2
  exact h u s2 I2 r1
/-- what the names of the fields must be -/
structure FOk (X : Cx) (C : Addr) (σ : L2.St) (i : Nat) (fs : List Str) (ys : List V) : Prop where
  N : ∀ j f, fs[j]? = some f → X.N[i + j]? = some f ∧ Vis X.env.scope f ∧ PySem.W.takerIn X.K C f = some none ∧ (f == ("__debug__" : Str)) = false ∧ (f == ("__classdict__" : Str)) = false
  σ : ∀ j y, ys[j]? = some y → σ[i + j]? = some (some y)
  l : ys.length = fs.length
theorem FOk.tl {i : Nat} {f : Str} {fs : List Str} {y : V} {ys : List V} (h : FOk X C σ i (f :: fs) (y :: ys)) : FOk X C σ (i + 1) fs ys :=
  ⟨fun j g hg => by
    have := h.N (j + 1) g (by simpa using hg)
    rwa [show i + (j + 1) = i + 1 + j from by omega] at this, fun j z hz => by
    have := h.σ (j + 1) z (by simpa using hz)
    rwa [show i + (j + 1) = i + 1 + j from by omega] at this, by simpa using h.l⟩
theorem flds1 {Q : Flow → Shared → Prop} (T : XC X.K C) (hN0 : X.N[0]? = some ("self" : Str)) (h0 : σ[0]? = some (some (.ref a))) (v0 : Vis X.env.scope "self") (ne : dx ≠ a) : ∀ {fs : List Str} {sts : List Stmt} {done : List (Str × V)} {ys : List V} {i : Nat} {s : Shared},
    FldSts fs sts → FOk X C σ i fs ys → done.length + fs.length ≤ 900 → Inv X pins σ (Hfin H a C dx done) s → (∀ s', Inv X pins σ (Hfin H a C dx ((fs.zip ys).reverse ++ done)) s' → Q .next s') → wpAny (model X.prog X.w) X.A (execs sts X.env) Q X.xe s
  | [], _, done, ys, i, s, .nil, ok, hl, I, h => by
    have e : ys = [] := List.eq_nil_of_length_eq_zero ok.l
    subst e
    exact wpAny_execs_nil (h s I)
  | f :: fs, _, done, ys, i, s, .cons r, ok, hl, I, h => by
    cases ys with
    | nil => exact absurd ok.l (by simp)
    | cons y ys =>
      obtain ⟨n1, n2, n3, n4, n5⟩ := ok.N 0 f rfl
      have e0 : σ[i]? = some (some y) := ok.σ 0 y rfl
      simp only [List.length_cons] at hl
      refine wpAny_execs_cons (asg_fld I hN0 h0 v0 n1 e0 n2 n4 n5 fun u s1 I1 ru => ?_)
      refine fld1 T I1 fin_a (fin_d ne) (by omega) n3 ru fun s2 I2 => ?_
      rw [fin_upd ne] at I2
      refine flds1 T hN0 h0 v0 ne r ok.tl (by simp only [List.length_cons]; omega) I2 fun s3 I3 => h s3 ?_
      simpa using I3
theorem flds0 {Q : Flow → Shared → Prop} (T : XC X.K C) (hN0 : X.N[0]? = some ("self" : Str)) (h0 : σ[0]? = some (some (.ref a))) (v0 : Vis X.env.scope "self") (ea : H a = some (exo a C none)) {fs : List Str} {sts : List Stmt} {ys : List V} {i : Nat}
    (hs : FldSts fs sts) (ok : FOk X C σ i fs ys) (hl : fs.length ≤ 900) (I : Inv X pins σ H s) (he : fs = [] → ∀ s', Inv X pins σ H s' → Q .next s') (h : fs ≠ [] → ∀ dx s', H dx = none → dx ≠ a → Inv X pins σ (Hfin H a C dx (fs.zip ys).reverse) s' → Q .next s') :
    wpAny (model X.prog X.w) X.A (execs sts X.env) Q X.xe s := by
  cases hs with
  | nil => exact wpAny_execs_nil (he rfl s I)
  | @cons f fs sts q1 q2 p' pos r =>
    cases ys with
    | nil => exact absurd ok.l (by simp)
    | cons y ys =>
      obtain ⟨n1, n2, n3, n4, n5⟩ := ok.N 0 f rfl
      have e0 : σ[i]? = some (some y) := ok.σ 0 y rfl
      refine wpAny_execs_cons (asg_fld I hN0 h0 v0 n1 e0 n2 n4 n5 fun u s1 I1 ru => ?_)
      refine fld0 T I1 ea n3 ru fun dx s2 dn dne I2 => ?_
      refine flds1 (H := H) (done := [(f, y)]) T hN0 h0 v0 dne r ok.tl (by simp only [List.length_cons, List.length_nil] at hl ⊢; omega) I2 fun s3 I3 => h (by simp) dx s3 dn dne ?_
      simpa using I3
end
end PXE

set_option Elab.async false
set_option linter.all false
set_option maxRecDepth 100000
set_option maxHeartbeats 4000000
/-! the __init__ of an own exception as a function that keeps its promise -/
namespace PXE
open PySem PySem.Spec PyProof.Rows L2 NdefX
def spI (C : Addr) (fs : List Str) : Sp := fun vs H Q _ => ∃ (a : Addr) (ys : List V), vs = .ref a :: ys ∧ ys.length = fs.length ∧ H a = some (exo a C none) ∧ (fs = [] → Q .non H) ∧ (fs ≠ [] → ∀ dx, H dx = none → dx ≠ a → Q .non (Hfin H a C dx (fs.zip ys).reverse))
abbrev nI (fs : List Str) : List Str := ("self" : Str) :: (fs ++ [("__class__" : Str)])
section
variable {CX : CXT} {P : Program} {w : World} {K : PySem.W.Frag} {mg : Str → Option Value} {base : Heap} {k : Nat} {f C cda cc : Addr} {name qual : Str} {params : Arguments} {scope : Scope} {dV kV doc pm ct oc : Value} {an od : Option Addr} {osl : Array (Option Value)}
  {st0 : Stmt} {sts : List Stmt} {fs : List Str} {p0 p1 p2 p3 p4 p5 : Pos} {j : Nat} {txt : Str} {pl : Sem Bool} {ar : Arg}
abbrev cenv (qual : Str) (scope : Scope) (L f cda cc : Addr) : Env := PySem.W.envX qual scope L f (.ref cda) [("__class__", cc)]
theorem init_fn (T : XC K C) (lk : K.lookup f = some ⟨oc, od, .func (PySem.W.fnX name qual params (st0 :: sts) scope [("__class__", cc)] dV kV doc pm an (.ref cda) ct), osl⟩) (hcd : PySem.W.codeIn K (.ref cda) qual = true)
    (hst : st0 = .Expr (.Call (.Attribute (.Call (.Name "super" p0) [] [] p1) "__init__" p2) [.Constant (.str txt) j p3] [] p4) p5) (S : NScope (nI fs) (("self" : Str) :: fs) ["__class__"] scope)
    (hks : scope.names.lookup ("super" : Str) = some .globalImplicit) (hp : (params.posonlyargs ++ params.args).head? = some ar) (har : ar.arg = ("self" : Str))
    (lc : ∃ oc od vs osl file tf, K.lookup cda = some ⟨oc, od, .fields vs, osl⟩ ∧ vs[2]? = some (.str file tf) ∧ ((P.main.file : Str) == file) = true) (lcc : ∃ oc od osl, K.lookup cc = some ⟨oc, od, .cell (some (.ref C)), osl⟩)
    (ms : mg "super" = none) (htop : (P.main.scope.names.lookup ("super" : Str)).isSome = false) (htk : ∀ g ∈ fs, PySem.W.takerIn K C g = some none ∧ (g == ("__debug__" : Str)) = false ∧ (g == ("__classdict__" : Str)) = false) (hF : FldSts fs sts) (hl9 : fs.length ≤ 900)
    (he : ∀ L, eval (.Call (.Attribute (.Call (.Name "super" p0) [] [] p1) "__init__" p2) [.Constant (.str txt) j p3] [] p4) (cenv qual scope L f cda cc) = (do
      let ov ← attributeBase (.Call (.Name "super" p0) [] [] p1) "__init__" (cenv qual scope L f cda cc) (eval (.Call (.Name "super" p0) [] [] p1) (cenv qual scope L f cda cc))
      standAt p2.atName
      let (g, first) ← holding [ov] (getMethod ov "__init__" pl)
      callWith p4 g first (backTo p4 (starEach [.Constant (.str txt) j p3] (cenv qual scope L f cda cc))) [])) :
    FnOk P w K mg base CX (k + 1) f (PySem.W.fnX name qual params (st0 :: sts) scope [("__class__", cc)] dV kV doc pm an (.ref cda) ct) (("self" : Str) :: fs) (spI C fs) := by
  refine ⟨fun vs H Q E h => ?_, fun A outer s H args us vs Q E hr e0 hb r hsp => ?_⟩
  · obtain ⟨a, ys, rfl, hl, _⟩ := h
    simp [hl]
  obtain ⟨a, ys, rfl, hl, ea, q0, q1⟩ := hsp
  have KX : K.In s.heap := e0.mod.kin.keeps fun b o e => (e0.bs b o e).1
  have lim : s.heap.NoLimit := e0.mod.nolimit.keeps fun b o e => (e0.bs b o e).1
  obtain ⟨xoc, xod, xos, lx⟩ := lcc
  refine ks_codeAny_call_defAt (body := st0 :: sts) hr.depth (KX _ _ lk) rfl lim (PySem.W.codeRec_of KX hcd) rfl hb S.nocell (fun ⟨n, _⟩ hy => S.par n (List.of_mem_zip hy).1) (fun h₁ hns kp => ?_) S.co S.gen S.kind
  have cells : CellsAt [(("__class__" : Str), cc)] ["__class__"] [some (V.ref C)] s.heap H := by
    have one : ∀ (y : Str) (c : Addr), [(("__class__" : Str), cc)].lookup y = some c → y = "__class__" ∧ c = cc := fun y c e => by
      rw [List.lookup_cons] at e
      split at e
      · rename_i z
        exact ⟨beq_iff_eq.mp z, (Option.some.inj e).symm⟩
      · cases e
    refine ⟨rfl, fun y c e => ?_, fun x y c e1 e2 => (one x c e1).1.trans (one y c e2).1.symm, fun i y e => ?_⟩
    · obtain ⟨_, rfl⟩ := one y c e
      exact ⟨(e0.bs _ _ (e0.mod.kin _ _ lx)).2, _, _, KX _ _ lx, rfl⟩
    · cases i with
      | zero =>
        obtain rfl : ("__class__" : Str) = y := Option.some.inj e
        refine ⟨cc, rfl, fun v hv => ?_⟩
        obtain rfl : V.ref C = v := Option.some.inj (Option.some.inj hv)
        exact ⟨_, rfl, _, KX _ _ lx, rfl⟩
      | succ i => simp at e
  have I : Inv (ncx CX P w K mg base (nI fs) ⟨name, qual, params, st0 :: sts, scope, [(("__class__" : Str), cc)], cda⟩ f A outer s H E) [] (startF (nI fs) (V.ref a :: ys) [some (V.ref C)]) H { s with heap := h₁, toks := s.toks + ((("self" : Str) :: fs).zip us).length } :=
    inv_startN S hr.hd e0 (by simp [hl]) r cells hns kp
  have F0 : NF := ⟨name, qual, params, st0 :: sts, scope, [(("__class__" : Str), cc)], cda⟩
  have SE : SupE (ncx CX P w K mg base (nI fs) ⟨name, qual, params, st0 :: sts, scope, [(("__class__" : Str), cc)], cda⟩ f A outer s H E) C f cda cc "self" :=
    { ks := hks
      kc := S.frk _ (by simp)
      k0 := S.par _ (by simp)
      nz := rfl
      fu := rfl
      lf := ⟨_, _, _, _, _, lk, hp, har⟩
      co := rfl
      lc := lc
      cel := rfl
      lcc := ⟨_, _, _, lx⟩
      ms := ms
      top := htop }
  have fok : FOk (ncx CX P w K mg base (nI fs) ⟨name, qual, params, st0 :: sts, scope, [(("__class__" : Str), cc)], cda⟩ f A outer s H E) C (startF (nI fs) (V.ref a :: ys) [some (V.ref C)]) 1 fs ys := by
    refine ⟨fun i g hg => ?_, fun i y hy => ?_, hl⟩
    · have hm := List.mem_of_getElem? hg
      obtain ⟨t1, t2, t3⟩ := htk g hm
      refine ⟨?_, .inl (S.par g (List.mem_cons_of_mem _ hm)), t1, t2, t3⟩
      show (nI fs)[1 + i]? = some g
      rw [Nat.add_comm, List.getElem?_cons_succ, List.getElem?_append_left (List.getElem?_eq_some_iff.mp hg).1]
      exact hg
    · have lt := (List.getElem?_eq_some_iff.mp hy).1
      unfold startF
      rw [Nat.add_comm, List.map_cons, List.cons_append, List.getElem?_cons_succ, List.getElem?_append_left (by rw [List.length_map]; exact lt), List.getElem?_map, hy]
      rfl
  have fin : ∀ {s' : Shared} {H' : Hp}, Inv (ncx CX P w K mg base (nI fs) ⟨name, qual, params, st0 :: sts, scope, [(("__class__" : Str), cc)], cda⟩ f A outer s H E) [] (startF (nI fs) (V.ref a :: ys) [some (V.ref C)]) H' s' → Q .non H' → CE outer P w H s Q .none s' :=
    fun J q => ⟨V.non, _, J.os, J.bare, J.base, J.hok, rfl, q⟩
  subst hst
  refine ks_wpAt_execs_cons (super_stmt T SE I ea rfl (fun s1 I1 => ?_) (he _))
  refine PySem.wpAt_of_wpAny (flds0 T rfl rfl (.inl SE.k0) ea hF fok hl9 I1 (fun z s2 I2 => ?_) fun z dx s2 dn dne I2 => ?_)
  · exact fin I2 (q0 z)
  · exact fin I2 (q1 z dx dn dne)
end
end PXE

set_option Elab.async false
set_option linter.all false
set_option maxRecDepth 100000
set_option maxHeartbeats 4000000
/-! C(e, ..), C an own exception -/
namespace PXE
open PySem PySem.Spec PyProof.Rows L2
section
variable {X : Cx} {CX : CXT} {C fI : Addr} {k : Nat} {fd : FuncData} {fs : List Str}
/-- what the call of the class needs -/
structure XMk (X : Cx) (CX : CXT) (C fI : Addr) (k : Nat) (fd : FuncData) (fs : List Str) : Prop where
  T : XC X.K C
  iC : PySem.W.findIn X.K (.ref C) "__init__" = some (some (.ref fI))
  tI : PySem.W.typeIn X.K (.ref fI) = some (.type "function")
  F : FnOk X.prog X.w X.K X.mg X.base CX k fI fd (("self" : Str) :: fs) (spI C fs)
theorem Raises.own (T : XC X.K C) : Raises X (.ref C) := raises_own T.exC T.tyC
theorem fin_free {H : Hp} {a C d : Addr} {l : List (Str × V)} (ha : H a = none) (ne : d ≠ a) : upd (del (Hfin (upd H a (exo a C none)) a C d l) a) d (.xd l) = upd H d (.xd l) := by
  funext b
  by_cases h1 : b = d
  · subst h1
    rw [upd_same, upd_same]
  · rw [upd_ne h1, upd_ne h1]
    by_cases h2 : b = a
    · subst h2
      rw [del_same, ha]
    · rw [del_ne h2]
      unfold Hfin
      rw [upd_ne h2, upd_ne h1, upd_ne h2]
/-- an exception without fields is let go -/
theorem mk_bare {pins : List (Addr × Obj)} {σ : L2.St} {H1 : Hp} {Q : XK} {hp hp2 h2 : Heap} {g1 g2 : Array GenState} {d1 d2 : Drawn} {t1 t2 : Nat} {os1 os2 : OsState} {a : Addr} (T : XC X.K C) (I1 : Inv X pins σ H1 ⟨hp, g1, d1, t1, os1⟩) (ha : hp.objs.size ≤ a)
    (k : ∀ b o, hp.get? b = some o → hp2.get? b = some o) (un : Un (frs X.stack) [] (upd H1 a (exo a C none)) (upd H1 a (exo a C none)) hp2 h2) (hok : HOk X.prog X.w (upd H1 a (exo a C none)) h2) (ho : os2 = os1) (hb : AllBare g2) (q : Q (.ref C) none H1) :
    MkP X pins σ Q (.ref a) ⟨h2, g2, d2, t2, os2⟩ := by
  obtain ⟨t0, hoe⟩ := exo_at hok upd_same
  have hn : H1 a = none := I1.hok.fresh ha
  obtain ⟨G, r1, r2⟩ := restrict h2 fun b => decide (b ≠ a)
  have same : ∀ b, b ≠ a → G.get? b = h2.get? b := fun b hb => r1 b (decide_eq_true hb)
  have gone : G.get? a = none := r2 a (by simp)
  have nea : ∀ {b : Addr} {o : Obj}, hp.get? b = some o → b ≠ a := fun {b o} z => Nat.ne_of_lt (Nat.lt_of_lt_of_le (Heap.lt_size z) ha)
  have upn : ∀ {b : Addr}, b ≠ a → H1 b = none → upd H1 a (exo a C none) b = none := fun {b} hb n => (upd_ne hb).trans n
  have U : Un (frs X.stack) [] H1 H1 hp G := {
    keep := fun b o z n hf hx => (same b (nea z)).trans (un.keep b o (k b o z) (upn (nea z) n) hf hx)
    slot := fun b o z n hf hx => by
      obtain ⟨sl, e⟩ := un.slot b o (k b o z) (upn (nea z) n) hf hx
      exact ⟨sl, (same b (nea z)).trans e⟩
    free := fun b o z n hx => n
    there := fun b o z hx => by
      obtain ⟨o', e⟩ := un.there b o (k b o z) hx
      exact ⟨o', (same b (nea z)).trans e⟩
    tups := fun b xs z => z
    frzs := fun b o v z => z
    tbls := fun b ps z => ⟨#[], by rw [z]; simp⟩ }
  have ok3 : HOk X.prog X.w H1 G := fun b o z => by
    have hba : b ≠ a := fun e => by
      rw [e, hn] at z
      cases z
    have noa : ∀ {c : Addr}, upd H1 a (exo a C none) c = some (.own b) → c ≠ a := fun {c} hc => at_ne upd_same hc exo_own
    refine (hok b o ((upd_ne hba).trans z)).stay (fun c v hc y => ?_) (fun c hc => ?_) (fun c xs hc => ?_)
    · have hca : c ≠ a := by
        rcases hc with hc | hc
        · rw [hc]
          exact hba
        · exact noa hc
      exact (same c hca).trans y
    · exact (upd_ne (noa hc)).symm.trans hc
    · exact (upd_ne (at_ne upd_same hc exo_tup)).symm.trans hc
  have J : Inv X pins σ H1 ⟨G, g2, d2, t2, os2⟩ := I1.call' (ch := []) ho U ok3 hb fun b z => absurd z (by simp)
  refine ⟨a, _, _, ⟨G, g2, d2, t2, os2⟩, H1, .ref C, none, rfl, J, fun b o z => ?_, gone, hoe, ⟨rfl, rfl⟩, rfl, rfl, hn, rfl, hb, raises_own T.exC T.tyC, q⟩
  by_cases hba : b = a
  · rw [hba, gone] at z
    cases z
  · exact (same b hba).symm.trans z
/-- the call: us the written arguments, ds the defaults behind them -/
theorem mk_call {pins : List (Addr × Obj)} {σ : L2.St} {H1 : Hp} {s1 : Shared} {us ds : List Value} {vs dvs : List V} {Q : XK} (M : XMk X CX C fI k fd fs) (hr : Room (k + 1) X.A) (hb : Binds X.K fd (("self" : Str) :: fs) ds) (hd : Vals dvs ds)
    (hx : Passes CX X (fun _ _ _ => False)) (I1 : Inv X pins σ H1 s1) (r1 : Vals vs us) (hz : vs.length ≤ 1000) (hl : (vs ++ dvs).length = fs.length) (h0 : fs = [] → Q (.ref C) none H1)
    (hq : fs ≠ [] → ∀ d, H1 d = none → Q (.ref C) (some d) (upd H1 d (.xd (fs.zip (vs ++ dvs)).reverse))) : wpAny (model X.prog X.w) X.A (call (.ref C) us) (MkP X pins σ Q) X.xe s1 := by
  obtain ⟨nm, N, q, bs, bm, hdct, sn, sub, ab, col, dd, k0, k1, k2, k3, k5, hC, hT⟩ := PySem.W.excInit_of I1.kIn M.T.ini
  obtain ⟨hp, g, dr, tk, os⟩ := s1
  have new1 : H1 (hp.objs.size + 1) = none := I1.hok.fresh (Nat.le_succ _)
  have up2 : ∀ b o, hp.get? b = some o → ((hp.push (PySem.W.kdv_tup us)).push (PySem.HandSPX.excO C hp.objs.size)).get? b = some o := fun b o e => Heap.get?_push_of_some _ (Heap.get?_push_of_some _ e)
  have got : ((hp.push (PySem.W.kdv_tup us)).push (PySem.HandSPX.excO C hp.objs.size)).get? (hp.objs.size + 1) = some (PySem.HandSPX.excO C hp.objs.size) := by heap_get
  have I2 := I1.laid (t' := tk) (a := hp.objs.size + 1) (o := exo (hp.objs.size + 1) C none) (h' := (hp.push (PySem.W.kdv_tup us)).push (PySem.HandSPX.excO C hp.objs.size)) up2 (Nat.le_succ _) (exo_ok got)
  have r2 : Vals (V.ref (hp.objs.size + 1) :: (vs ++ dvs)) (Value.ref (hp.objs.size + 1) :: (us ++ ds)) := .cons rfl (r1.append hd)
  have len2 : (Value.ref (hp.objs.size + 1) :: us ++ ds).length = (("self" : Str) :: fs).length := by
    have e := r2.length
    simp only [List.length_cons] at e ⊢
    rw [hl] at e
    exact e.symm
  have short : us.length ≤ sizeLine := by
    rw [← Paired.length r1, sizeLine_eq]
    omega
  have sp : spI C fs (V.ref (hp.objs.size + 1) :: (vs ++ dvs)) (upd H1 (hp.objs.size + 1) (exo (hp.objs.size + 1) C none)) (fun v H2 => v = .non ∧ ((fs = [] ∧ H2 = upd H1 (hp.objs.size + 1) (exo (hp.objs.size + 1) C none)) ∨
      (fs ≠ [] ∧ ∃ d, H1 d = none ∧ d ≠ hp.objs.size + 1 ∧ H2 = Hfin (upd H1 (hp.objs.size + 1) (exo (hp.objs.size + 1) C none)) (hp.objs.size + 1) C d (fs.zip (vs ++ dvs)).reverse))) (fun _ _ _ => False) :=
    ⟨_, _, rfl, hl, upd_same, fun z => ⟨rfl, .inl ⟨z, rfl⟩⟩, fun z dx hn hne => ⟨rfl, .inr ⟨z, dx, by rw [upd_ne hne] at hn; exact hn, hne, rfl⟩⟩⟩
  refine wpAny_call (PySem.HandSPX.call_own F.excBase_Exception hT hC (PySem.W.looks_findIn I1.kIn M.iC) (fun self => PySem.W.bind_fn I1.kIn self M.tI) short
    (codeAny_mono (M.F.run _ X.stack _ _ ⟨Value.ref (hp.objs.size + 1) :: us, []⟩ (Value.ref (hp.objs.size + 1) :: (us ++ ds)) _ _ (fun _ _ _ => False) (hr.make C us []) (I2.env0.make C us []) (hb _ (Value.ref (hp.objs.size + 1) :: us) I2.kIn len2) r2 sp) fun r s' hq' => ?_))
  cases r with
  | error er => exact hx pins σ _ _ er s' I2 hq'
  | ok fl =>
    cases fl with
    | ret u =>
      obtain ⟨v, H2, os2, bare2, un2, hok2, rv, ev, hh⟩ := hq'
      subst ev
      obtain ⟨h2, g2, d2, t2, os'⟩ := s'
      rcases hh with ⟨z, rfl⟩ | ⟨z, d, hd1, hne, rfl⟩
      · exact ⟨rv, mk_bare (d2 := d2) (t2 := t2) M.T I1 (Nat.le_succ _) up2 un2 hok2 os2 bare2 (h0 z)⟩
      · have e := mk_end (d2 := d2) (t2 := t2) (raises_own M.T.exC M.T.tyC) I1 (Nat.le_succ _) up2 un2 hok2 os2 bare2 fin_a (fin_d hne) hd1 (Q := Q) (by rw [fin_free new1 hne]; exact hq z d hd1)
        exact ⟨rv, e⟩
    | next => exact False.elim hq'
    | brk => exact False.elim hq'
    | cont => exact False.elim hq'
end
end PXE

set_option Elab.async false
set_option linter.all false
set_option maxRecDepth 100000
set_option maxHeartbeats 4000000
/-! own exceptions in the pure layer: C(e, ..), raise -/
namespace PL
open PySem PySem.Spec PyProof.Rows L2 PXE
/-- C(e, ..): the fields fn, the defaults dfl of the last ones -/
def eMk (c : Str) (fn : List Str) (dfl : List D) (fs : List (Env → Res Rv)) : Env → Res Exc := fun env => (eSeq fs env).bind fun ds e => if (ds ++ dfl).length = fn.length then .ok ⟨c, (fn.zip (ds ++ dfl)).reverse⟩ e else .stuck
def sRaise (g : Env → Res Exc) : Env → SRes := fun env => match g env with
  | .ok x e => .exc x e
  | .exc x e => .exc x e
  | .stuck => .stuck
def MPost (K : PySem.W.Frag) (W : WX) (env : Env) (F : Hp) (σ : St) (H : Hp) (Q : XK) : Res Exc → Prop
  | .stuck => False
  | .ok x env' => ∀ cls d F' H', Rel K env' F' σ H' → Stp env σ F H env' σ F' H' → XRel K F' x cls d → Q cls d H'
  | .exc x env' => ∀ cls d F' H', Rel K env' F' σ H' → Stp env σ F H env' σ F' H' → XRel K F' x cls d → W cls d σ H'
/-- an expression that makes an exception -/
def SM (X : Cx) (W : WX) (e : Expr) (g : Env → Res Exc) : Prop := PMk X e fun σ H Q => ∃ env F, Rel X.K env F σ H ∧ MPost X.K W env F σ H Q (g env)
theorem zip_fst : ∀ {ns : List Str} {α : Type} {xs : List α}, xs.length = ns.length → (ns.zip xs).map (·.1) = ns
  | [], _, [], _ => rfl
  | n :: ns, _, x :: xs, h => by
    rw [List.zip_cons_cons, List.map_cons, zip_fst (by simpa using h)]
  | [], _, _ :: _, h => by simp at h
  | _ :: _, _, [], h => by simp at h
theorem zip_snd : ∀ {ns : List Str} {α : Type} {xs : List α}, xs.length = ns.length → (ns.zip xs).map (·.2) = xs
  | [], _, [], _ => rfl
  | n :: ns, _, x :: xs, h => by
    rw [List.zip_cons_cons, List.map_cons, zip_snd (by simpa using h)]
  | [], _, _ :: _, h => by simp at h
  | _ :: _, _, [], h => by simp at h
theorem RepL.app {K : PySem.W.Frag} {F : Hp} : ∀ {xs ys : List V} {ds es : List D}, RepL K F xs ds → RepL K F ys es → RepL K F (xs ++ ys) (ds ++ es)
  | _, _, _, _, .nil, h => h
  | _, _, _, _, .cons h1 h2, h => .cons h1 (RepL.app h2 h)
theorem RepL.rev {K : PySem.W.Frag} {F : Hp} : ∀ {xs : List V} {ds : List D}, RepL K F xs ds → RepL K F xs.reverse ds.reverse
  | _, _, .nil => .nil
  | _, _, .cons h1 h2 => by
    rw [List.reverse_cons, List.reverse_cons]
    exact RepL.app (RepL.rev h2) (.cons h1 .nil)
/-- what the class named c gives in the context X -/
structure ExK (X : Cx) (c : Str) (fn : List Str) (k : Nat) (dfl : List D) : Prop where
  glo : X.mg c = some (.ref (He.ga X.K c))
  dbg : (c == ("__debug__" : Str)) = false
  made : ∃ fI fd, XMk X (L2.CX X.prog X.w) (He.ga X.K c) fI k fd fn ∧ ∃ ds dvs, Binds X.K fd (("self" : Str) :: fn) ds ∧ Vals dvs ds ∧ ∀ F, RepL X.K F dvs dfl
section
variable {X : Cx} {W : WX} {e : Expr} {es : List Expr} {fs : List (Env → Res Rv)} {c : Str} {fn : List Str} {dfl : List D} {k n : Nat} {p pos : Pos} {K : PySem.W.Frag} {env : Env} {F H : Hp} {σ : St}
/-- the exception made out of these data -/
theorem mk_post {env1 : Env} {F1 H1 : Hp} {Q : XK} {vs dvs : List V} {ds : List D} (R : Rel K env1 F1 σ H1) (S : Stp env σ F H env1 σ F1 H1) (r : RepL K F1 vs ds) (rd : ∀ F, RepL K F dvs dfl) (hl : (ds ++ dfl).length = fn.length)
    (p : MPost K W env F σ H Q (.ok ⟨c, (fn.zip (ds ++ dfl)).reverse⟩ env1)) : (vs ++ dvs).length = fn.length ∧ (fn = [] → Q (.ref (He.ga K c)) none H1) ∧ (fn ≠ [] → ∀ d, H1 d = none → Q (.ref (He.ga K c)) (some d) (upd H1 d (.xd (fn.zip (vs ++ dvs)).reverse))) := by
  have rr : RepL K F1 (vs ++ dvs) (ds ++ dfl) := RepL.app r (rd F1)
  have ll : (vs ++ dvs).length = fn.length := rr.length.trans hl
  refine ⟨ll, fun z => ?_, fun z d hd => ?_⟩
  · subst z
    refine p _ _ _ _ R S ⟨rfl, .inl ⟨?_, rfl⟩⟩
    simp
  · refine p _ _ _ _ (R.laid hd) (S.trans (Stp.laid hd)) ⟨rfl, .inr ⟨d, _, rfl, upd_same, ?_, ?_⟩⟩
    · rw [List.map_reverse, List.map_reverse, zip_fst ll, zip_fst hl]
    · rw [List.map_reverse, List.map_reverse, zip_snd ll, zip_snd hl]
      exact (RepL.rev rr).mono (sub_laid R hd)
theorem SM.own (E : ExK X c fn k dfl) (hr : Room (k + 1) X.A) (hg : Gl X c) (tk : Takes X W) (ha : SA X W (e :: es) fs) (hz : fs.length ≤ 1000 := by decide)
    (he : starEach (e :: es) X.env = (false, eval e X.env) :: starEach es X.env := by rfl) (hpl : (backTo pos (starEach es X.env)).any (·.1) = false := by rfl) : SM X W (.Call (.Name c p) (e :: es) [] pos) (eMk c fn dfl fs) := by
  obtain ⟨fI, fd, M, ds, dvs, hb, hd, rd⟩ := E.made
  intro pins s σ H Q I h
  obtain ⟨env, F, R, p⟩ := h
  refine wpAny_Call_Name_kw (ld_glob I hg E.glo ?_ E.dbg)
  have pa : tA X.K W (eSeq fs) σ H fun vs H1 => vs.length ≤ 1000 ∧ (vs ++ dvs).length = fn.length ∧ (fn = [] → Q (.ref (He.ga X.K c)) none H1) ∧ (fn ≠ [] → ∀ d, H1 d = none → Q (.ref (He.ga X.K c)) (some d) (upd H1 d (.xd (fn.zip (vs ++ dvs)).reverse))) := by
    refine ⟨env, F, R, ?_⟩
    unfold eMk at p
    cases h3 : eSeq fs env with
    | stuck => rw [h3] at p; exact p
    | exc z e3 => rw [h3] at p; exact p
    | ok xs e3 =>
      rw [h3] at p
      intro vs F' H' R' S' r
      have p2 : MPost X.K W env F σ H Q (if (xs ++ dfl).length = fn.length then .ok ⟨c, (fn.zip (xs ++ dfl)).reverse⟩ e3 else .stuck) := p
      by_cases hl : (xs ++ dfl).length = fn.length
      · rw [if_pos hl] at p2
        exact ⟨by rw [r.length, eSeq_length h3]; exact hz, mk_post R' S' r rd hl p2⟩
      · rw [if_neg hl] at p2
        exact p2.elim
  refine PySem.W.callWith_K (h₀ := X.base) I.ok.mod.kin M.T.kC (thn (ha.run pos pins s σ H _ I pa) fun us s1 hh => ?_) he hpl
  obtain ⟨vs, H1, I1, r1, z1, z2, z3, z4⟩ := hh
  refine ⟨I1.kIn, ?_⟩
  refine mk_call M hr hb hd ?_ I1 r1 z1 z2 z3 z4
  exact fun pins σ H s e s' I' c => passAt (W := fun _ _ _ _ => False) takes_none5 σ pins H s e s' I' c
theorem SM.own0 (E : ExK X c fn k dfl) (hr : Room (k + 1) X.A) (hg : Gl X c) : SM X W (.Call (.Name c p) [] [] pos) (eMk c fn dfl []) := by
  obtain ⟨fI, fd, M, ds, dvs, hb, hd, rd⟩ := E.made
  intro pins s σ H Q I h
  obtain ⟨env, F, R, p⟩ := h
  refine wpAny_Call_Name_kw (ld_glob I hg E.glo ?_ E.dbg)
  refine PySem.W.callWith_K0 I.kIn M.T.kC ?_
  unfold eMk at p
  have p2 : MPost X.K W env F σ H Q (if (([] : List D) ++ dfl).length = fn.length then .ok ⟨c, (fn.zip ([] ++ dfl)).reverse⟩ env else .stuck) := p
  by_cases hl : (([] : List D) ++ dfl).length = fn.length
  · rw [if_pos hl] at p2
    obtain ⟨z2, z3, z4⟩ := mk_post (vs := []) R Stp.refl .nil rd hl p2
    refine mk_call (us := []) (vs := []) M hr hb hd ?_ I .nil (by simp) z2 z3 z4
    exact fun pins σ H s e s' I' c => passAt (W := fun _ _ _ _ => False) takes_none5 σ pins H s e s' I' c
  · rw [if_neg hl] at p2
    exact p2.elim
theorem SS.raise {g : Env → Res Exc} (hc : X.calm = true) (tk : Takes X W) (h : SM X W e g) : SS X W (.Raise (some e) none pos) (sRaise g) := by
  have q := ps_raise (pos := pos) hc tk h
  refine PS.imp q fun D σ H hS => ?_
  obtain ⟨env, F, R, p⟩ := hS
  refine ⟨env, F, R, ?_⟩
  unfold sRaise at p
  cases h3 : g env with
  | stuck => rw [h3] at p; exact p
  | ok x e3 =>
    rw [h3] at p
    exact fun cls d F' H' R' S' X' => p cls d σ F' H' R' S' X'
  | exc x e3 =>
    rw [h3] at p
    exact fun cls d F' H' R' S' X' => p cls d σ F' H' R' S' X'
end
end PL

set_option Elab.async false
set_option linter.all false
set_option maxRecDepth 100000
set_option maxHeartbeats 4000000
/-! try with several clauses, each with or without a name -/
namespace PXE
open PySem PySem.Spec PyProof.Rows L2
/-- a clause: its class, the slot of its name, its suite's reading -/
structure Hd where
  c : Value
  o : Option Nat
  ts : Addr → Value → Option Addr → TS
def endsAs (o : Option Nat) (D : Ends) : Ends := match o with
  | none => D
  | some i => { nx := fun σ H => D.nx (σ.set i none) H, rt := D.rt, bk := fun σ H => D.bk (σ.set i none) H, ct := fun σ H => D.ct (σ.set i none) H }
def slotAs (o : Option Nat) (a : Addr) (σ : L2.St) : L2.St := match o with
  | none => σ
  | some i => σ.set i (some (.ref a))
def wHds (K : PySem.W.Frag) (Wout : WX) (D : Ends) : List Hd → WX
  | [] => Wout
  | h :: r => fun cls d σ H => ∃ b, PySem.W.exmOne K cls h.c = some b ∧ (b = true → ∀ a, H a = none → h.ts a cls d (endsAs h.o D) (slotAs h.o a σ) H) ∧ (b = false → wHds K Wout D r cls d σ H)
/-- a suite's rule, whatever was caught -/
def SuOk (X : Cx) (su : List Stmt) (ts : Addr → Value → Option Addr → TS) : Prop := ∀ (a : Addr) (oe : Obj) (cls : Value) (d : Option Addr) (pn : List (Addr × Obj)), Zc cls d oe → (∃ vs, oe.data = .fields vs) → PSs (X.suite a ((a, oe) :: pn)) su (ts a cls d)
inductive HsOk (X : Cx) : List ExceptHandler → List Hd → Prop
  | nil : HsOk X [] []
  | plain {x : Str} {c : Value} {ts : Addr → Value → Option Addr → TS} {s0 : Stmt} {su : List Stmt} {np hp : Pos} {hds : List ExceptHandler} {l : List Hd} (hc : Names X x c) (hsu : SuOk X (s0 :: su) ts) (r : HsOk X hds l) :
      HsOk X (.ExceptHandler (some (.Name x np)) none (s0 :: su) hp :: hds) (⟨c, none, ts⟩ :: l)
  | as {x n : Str} {i : Nat} {c : Value} {ts : Addr → Value → Option Addr → TS} {s0 : Stmt} {su : List Stmt} {np hp : Pos} {hds : List ExceptHandler} {l : List Hd} (hc : Names X x c) (hi : X.N[i]? = some n) (hln : X.env.kindOf n = some .local) (hsu : SuOk X (s0 :: su) ts) (r : HsOk X hds l) :
      HsOk X (.ExceptHandler (some (.Name x np)) (some n) (s0 :: su) hp :: hds) (⟨c, some i, ts⟩ :: l)
section
variable {X : Cx} {pins : List (Addr × Obj)} {σ : L2.St} {H : Hp} {s : Shared} {sI : Shared} {B h3 : Heap} {a : Addr} {cls : Value} {d : Option Addr} {Wout : WX} {D : Ends}
/-- the caught object is no frame -/
theorem no_frame {L : List Env} {h : Heap} {o : Obj} {vs : Array Value} (ff : h.FunFrames B L) (e : h.get? a = some o) (hd : o.data = .fields vs) : a ∉ frs L := fun hm => by
  obtain ⟨_, o', e', no⟩ := ff.mem hm
  rw [e] at e'
  cases e'
  exact no _ hd
/-- what an except suite is run in -/
theorem caught_in (hf : X.env.frame = some X.env.locals) (J : Inv X pins σ H sI) (nb : ∀ b o, sI.heap.get? b = some o → b ∉ frs X.stack → B.get? b = some o) (up : sI.heap.UpToSlots h3) (fl : PySem.HandSPX.FlyingZ B (X.env :: X.outer) a (Zc cls d) h3)
    (na : H a = none) (os : s.os = sI.os) (ag : AllBare s.gens) : ∃ oe vs, h3.get? a = some oe ∧ Zc cls d oe ∧ oe.data = .fields vs ∧ Inv X pins σ H { s with heap := h3 } ∧ Inv (X.suite a ((a, oe) :: (X.pn ++ pins))) [] σ H { s with heap := h3 } := by
  obtain ⟨oe, vs, he, hz, hd⟩ := fl.there
  have J3 : Inv X pins σ H { s with heap := h3 } := J.landed nb fl.1 up os ag
  have nf := no_frame fl.2.2.1 he hd
  have nL : a ≠ X.env.locals := fun z => nf (List.mem_filterMap.mpr ⟨X.env, List.mem_cons_self, hf.trans (congrArg some z.symm)⟩)
  have nF : a ∉ X.fs := fun hm => by
    obtain ⟨e, he', q⟩ := List.mem_filterMap.mp hm
    exact nf (List.mem_filterMap.mpr ⟨e, List.mem_cons_of_mem _ he', q⟩)
  exact ⟨oe, vs, he, hz, hd, J3, J3.suite he hd na nL nF⟩
theorem handle_mix (hs : X.stack = X.env :: X.outer) (hf : X.env.frame = some X.env.locals) (hN : X.N.Nodup) (tk : Takes X Wout) (J : Inv X pins σ H sI) (nb : ∀ b o, sI.heap.get? b = some o → b ∉ frs X.stack → B.get? b = some o) (up : sI.heap.UpToSlots h3)
    (fl : PySem.HandSPX.FlyingZ B (X.env :: X.outer) a (Zc cls d) h3) (na : H a = none) (os : s.os = sI.os) (ag : AllBare s.gens) : ∀ {hds : List ExceptHandler} {l : List Hd}, HsOk X hds l → wHds X.K Wout D l cls d σ H →
      wpAny (model X.prog X.w) X.A (handleBy (.ref a) X.env hds) (SP X pins D) X.xe { s with heap := h3 } := by
  have ok := J.ok
  obtain ⟨oe, vs, he, hz, hd, J3, S3⟩ := caught_in (s := s) hf J nb up fl na os ag
  have LT : PySem.W.Looks (model X.prog X.w) h3 (typeOf (.ref a)) cls := fun A Q E s1 k q => wpAny_typeOf_ref (k _ _ he) (by rw [hz.1]; exact q)
  have test : ∀ {x : Str} {c : Value} {np : Pos} {Q E : Value → Shared → Prop}, Names X x c → Q c { s with heap := h3 } → wpAny (model X.prog X.w) (X.A.mark (some (.ref a))) (eval (.Name x np) X.env) Q E { s with heap := h3 } := fun {x c np Q E} hc q => by
    obtain ⟨g1, g2, g3 | ⟨g3, g4, g5⟩⟩ := hc
    · exact ld_glob (X := X.suite a ((a, oe) :: (X.pn ++ pins))) S3 g1 g3 q g2
    · exact ld_blt (X := X.suite a ((a, oe) :: (X.pn ++ pins))) S3 g1 g3 g4 q g5 g2
  intro hds l hk
  induction hk with
  | nil =>
    intro w
    refine wpAny_handleBy_nil ?_
    obtain ⟨k1, k2, k3, oe', vs', T, oT, ts', he', hz', hd', h1, hr⟩ := id fl
    unfold PySem.passOn
    refine wpAny_bind (wpAny_field he' hd' h1 ?_)
    rw [if_neg (show ¬ ((Value.ref T == Value.none) = true) from by simp)]
    have out : wpAny (model X.prog X.w) X.A (setFlight (.ref a) X.env.frame) (fun _ s4 => wpAny (model X.prog X.w) X.A (throw (.ref a) : Sem Flow) (SP X pins D) X.xe s4) X.xe { s with heap := h3 } := by
      rw [hf]
      refine PySem.HandSPX.setFlight_upZ fl fun h4 held4 up4 => wpAny_throw (tk _ _ ?_)
      exact ⟨a, B, sI, pins, σ, H, cls, d, rfl, J, nb, up.trans up4, .inr (.inr (hs ▸ held4)), na, os, ag, w⟩
    first
      | exact wpAny_bind (wpAny_pure (wpAny_bind out))
      | exact wpAny_bind out
  | @plain x c ts s0 su np hp hds l hc hsu r ih =>
    rintro ⟨b, b1, b2, b3⟩
    refine wpAny_handleBy_cons (codeAny_handlers_test ?_) (by intro q; cases q)
    refine test hc ((PySem.W.exm_one J3.kIn LT b1).here ?_)
    cases b with
    | false => exact ih (b3 rfl)
    | true =>
      refine codeAny_handlers_suite (PySem.HandSPX.lands_againZ fl fun h4 fl4 up4 => ?_)
      obtain ⟨oe4, vs4, he4, hz4, hd4, J4, S4⟩ := caught_in (s := s) hf J nb (up.trans up4) fl4 na os ag
      refine wpAny_mono ((hsu a oe4 cls d (X.pn ++ pins) hz4 ⟨_, hd4⟩).run [] _ _ H _ S4 (b2 rfl a na)) (fun f s6 hsp => ?_) (fun _ _ z => z.elim)
      cases f <;> (obtain ⟨v6, h6⟩ := hsp; try obtain ⟨σ6, h6⟩ := h6)
      case ret =>
        obtain ⟨H6, I6, r6, q6⟩ := h6
        exact ⟨_, _, _, I6.unsuite ok, r6, q6⟩
      all_goals exact ⟨_, _, h6.1.unsuite ok, h6.2⟩
  | @as x n i c ts s0 su np hp hds l hc hi hln hsu r ih =>
    rintro ⟨b, b1, b2, b3⟩
    refine wpAny_handleBy_cons (codeAny_handlers_test ?_) (by intro q; cases q)
    refine test hc ((PySem.W.exm_one J3.kIn LT b1).here ?_)
    cases b with
    | false => exact ih (b3 rfl)
    | true =>
      refine codeAny_handlers_suite_as (PySem.HandSPX.lands_againZ fl fun h4 fl4 up4 => ?_)
      obtain ⟨oe4, vs4, he4, hz4, hd4, J4, S4⟩ := caught_in (s := s) hf J nb (up.trans up4) fl4 na os ag
      refine store_ok (X := X.suite a ((a, oe4) :: (X.pn ++ pins))) (v := .ref a) S4 hN hi (.inl hln) rfl (fun s5 S5 => ?_) (.inr hln)
      refine wpAny_mono ((hsu a oe4 cls d (X.pn ++ pins) hz4 ⟨_, hd4⟩).run [] s5 _ H _ S5 (b2 rfl a na)) (fun f s6 hsp => ?_) (fun _ _ z => z.elim)
      have drop : ∀ {σ6 : L2.St} {H6 : Hp} {Q : Shared → Prop}, Inv (X.suite a ((a, oe4) :: (X.pn ++ pins))) [] σ6 H6 s6 → (∀ s7, Inv X pins (σ6.set i none) H6 s7 → Q s7) →
          wpAny (model X.prog X.w) X.A (do bindName X.env n .none; unbindBehindTheSuite X.env n hp) (fun _ s7 => Q s7) X.xe s6 := fun {σ6 H6 Q} S6 hq => gone_ok (S6.unsuite ok) hN hi hln hq
      cases f <;> (obtain ⟨v6, h6⟩ := hsp; try obtain ⟨σ6, h6⟩ := h6)
      case ret =>
        obtain ⟨H6, I6, r6, q6⟩ := h6
        exact drop I6 fun s7 J7 => ⟨_, _, _, J7, r6, q6⟩
      all_goals exact drop h6.1 fun s7 J7 => ⟨_, _, J7, h6.2⟩
end
section
variable {X : Cx} {body : List Stmt} {h0 : ExceptHandler} {hds : List ExceptHandler} {l : List Hd} {pos : Pos} {tb : WX → TS} {Wout : WX}
theorem ps_try_mix (hs : X.stack = X.env :: X.outer) (hf : X.env.frame = some X.env.locals) (hN : X.N.Nodup) (tk : Takes X Wout)
    (hb : ∀ (W : WX) (pn : List (Addr × Obj)) (xe : Value → Shared → Prop), Takes (X.tr pn xe) W → PassesOwn (model X.prog X.w) X.A X.env xe → PSs (X.tr pn xe) body (tb W))
    (hh : HsOk X (h0 :: hds) l) : PS X (.Try body (h0 :: hds) [] [] pos) (fun D σ H => tb (wHds X.K Wout D l) D σ H) := by
  refine ⟨fun pins s σ H D I h => ?_⟩
  have ok := I.ok
  have fr0 : X.A.frames = some (X.env :: X.outer) := ok.frames.trans (congrArg some hs)
  have run := hb (wHds X.K Wout D l) (X.pn ++ pins) (fun e s1 => wpAny (model X.prog X.w) X.A (noteFrame e X.env) (fun _ s2 => wpAny (model X.prog X.w) X.A (setFlight e none) (fun _ s3 =>
    wpAny (model X.prog X.w) X.A (handleBy e X.env (h0 :: hds)) (SP X pins D) X.xe s3) X.xe s2) X.xe s1) (fun u s' xx => by
      obtain ⟨a, B, sI, pins', σ', H', cls, d, rfl, J', nb, up, sky, na, os, ag, w⟩ := xx
      have J : Inv X pins σ' H' sI := J'.ofTry ok
      have sky' : Sky B (X.env :: X.outer) a (Zc cls d) X.env.locals s'.heap := hs ▸ sky
      exact Sky.land Zc.steady fr0 hf sky' fun h3 fl3 up3 => handle_mix hs hf hN tk J nb (up.trans up3) fl3 na os ag hh w) PassesOwn.looking
  refine wpAny_Try_except (wpAny_mono (run.run [] s σ H D (I.toTry _) h) (fun f s1 hsp => ?_) (fun e s1 he => he))
  cases f <;> (obtain ⟨v6, h6⟩ := hsp; try obtain ⟨σ6, h6⟩ := h6)
  case next => exact wpAny_execs_nil ⟨_, _, h6.1.ofTry ok, h6.2⟩
  case ret =>
    obtain ⟨H6, I6, r6, q6⟩ := h6
    exact ⟨_, _, _, I6.ofTry ok, r6, q6⟩
  all_goals exact ⟨_, _, h6.1.ofTry ok, h6.2⟩
end
end PXE

set_option Elab.async false
set_option linter.all false
set_option maxRecDepth 100000
set_option maxHeartbeats 4000000
/-! try in the pure layer -/
namespace PL
open PySem PySem.Spec PyProof.Rows L2 PXE
/-- a clause: its class, the slot of its name, what its suite does with what was caught -/
structure Hn where
  c : Str
  o : Option Nat
  f : Exc → Env → SRes
/-- behind a suite without a name: nothing may leave it as an exception -/
def noX : SRes → SRes
  | .exc _ _ => .stuck
  | r => r
/-- behind a suite with a name: it returns data -/
def unX (i : Nat) : SRes → SRes
  | .rt (.d x) e => if canSet e i then .rt (.d x) (e.set i .un) else .stuck
  | _ => .stuck
def hand (sub : Str → Str → Bool) : List Hn → Exc → Env → SRes
  | [], x, e => .exc x e
  | h :: hs, x, e => if sub x.cls h.c then (match h.o with
    | none => noX (h.f x e)
    | some i => if canSet e i then unX i (h.f x (e.set i .un)) else .stuck) else hand sub hs x e
def sTry (known : List Str) (sub : Str → Str → Bool) (body : Env → SRes) (hs : List Hn) : Env → SRes := fun env => match body env with
  | .exc x e1 => if known.contains x.cls then hand sub hs x e1 else .stuck
  | r => r
section
variable {K : PySem.W.Frag} {F H : Hp} {env : Env} {σ : St} {i : Nat} {v : Option V}
theorem Rel.forget (R : Rel K env F σ H) : Rel K (env.set i .un) F (σ.set i v) H := by
  have at' : ∀ {j : Nat} {s : Sl}, (env.set i .un)[j]? = some s → (j = i ∧ s = .un) ∨ (j ≠ i ∧ env[j]? = some s) := fun {j s} e => by
    by_cases hj : j = i
    · subst hj
      by_cases hl : j < env.length
      · rw [List.getElem?_set_self hl] at e
        exact .inl ⟨rfl, (Option.some.inj e).symm⟩
      · rw [List.getElem?_eq_none (by rw [List.length_set]; omega)] at e
        cases e
    · rw [List.getElem?_set_ne (Ne.symm hj)] at e
      exact .inr ⟨hj, e⟩
  refine ⟨R.le, by rw [List.length_set, List.length_set]; exact R.len, fun j s e => ?_, fun j k w l c w' l' c' a e1 e2 s1 s2 => ?_⟩
  · rcases at' e with ⟨_, rfl⟩ | ⟨hj, e⟩
    · exact trivial
    · rw [List.getElem?_set_ne (Ne.symm hj)]
      exact R.sl j s e
  · rcases at' e1 with ⟨_, z⟩ | ⟨h1, e1⟩
    · cases z
    · rcases at' e2 with ⟨_, z⟩ | ⟨h2, e2⟩
      · cases z
      · rw [List.getElem?_set_ne (Ne.symm h1)] at s1
        rw [List.getElem?_set_ne (Ne.symm h2)] at s2
        exact R.ap j k w l c w' l' c' a e1 e2 s1 s2
theorem Stp.forget (hc : ∀ l c, env[i]? ≠ some (.mu false l c)) : Stp env σ F H (env.set i .un) (σ.set i v) F H := by
  have at' : ∀ {j : Nat} {w l : Bool} {c : Co}, (env.set i .un)[j]? = some (.mu w l c) → j ≠ i ∧ env[j]? = some (.mu w l c) := fun {j w l c} e => by
    by_cases hj : j = i
    · subst hj
      by_cases hl : j < env.length
      · rw [List.getElem?_set_self hl] at e
        cases e
      · rw [List.getElem?_eq_none (by rw [List.length_set]; omega)] at e
        cases e
    · rw [List.getElem?_set_ne (Ne.symm hj)] at e
      exact ⟨hj, e⟩
  refine ⟨fun _ _ _ => ⟨rfl, rfl⟩, fun _ h => h, fun a ha => ?_, fun a ha => ?_, fun j l c e => ?_, fun j w c e => ?_⟩
  · obtain ⟨j, w, c, e, s⟩ := ha
    obtain ⟨hj, e⟩ := at' e
    rw [List.getElem?_set_ne (Ne.symm hj)] at s
    exact .inl ⟨j, w, c, e, s⟩
  · obtain ⟨j, w, l, c, e, s⟩ := ha
    obtain ⟨hj, e⟩ := at' e
    rw [List.getElem?_set_ne (Ne.symm hj)] at s
    exact .inl ⟨j, w, l, c, e, s⟩
  · have hj : j ≠ i := fun z => by
      subst z
      exact hc l c e
    rw [List.getElem?_set_ne (Ne.symm hj), List.getElem?_set_ne (Ne.symm hj)]
    exact ⟨rfl, l, c, e⟩
  · obtain ⟨hj, e⟩ := at' e
    rw [List.getElem?_set_ne (Ne.symm hj)]
    exact ⟨⟨c, e⟩, rfl⟩
theorem XRel.mono {G : Hp} {x : Exc} {cls : Value} {d : Option Addr} (h : XRel K F x cls d) (s : Sub F G) : XRel K G x cls d := by
  obtain ⟨h1, h2⟩ := h
  refine ⟨h1, ?_⟩
  rcases h2 with h2 | ⟨dd, fs, e1, e2, e3, e4⟩
  · exact .inl h2
  · exact .inr ⟨dd, fs, e1, s _ _ e2, e3, e4.mono s⟩
end
/-- what a clause's suite with a name is told -/
def tAs (K : PySem.W.Frag) (known : List Str) (sub : Str → Str → Bool) (c : Str) (i : Nat) (f : Exc → Env → SRes) (a : Addr) (cls : Value) (d : Option Addr) : TS := fun D σ H =>
  ∃ x, x.cls ∈ known ∧ sub x.cls c = true ∧ σ[i]? = some (some (.ref a)) ∧ ∃ env F, Rel K env F σ H ∧ XRel K F x cls d ∧ SPost K (fun _ _ _ _ => False) env F σ H D (f x env)
/-- the clauses and their meanings -/
inductive HnOk (X : Cx) (known : List Str) (sub : Str → Str → Bool) : List ExceptHandler → List Hn → Prop
  | nil : HnOk X known sub [] []
  | plain {c : Str} {g : Env → SRes} {s0 : Stmt} {su : List Stmt} {np hp : Pos} {hds : List ExceptHandler} {hs : List Hn} (hg : Gl X c) (hm : X.mg c = some (.ref (He.ga X.K c))) (hdb : (c == ("__debug__" : Str)) = false)
      (hsu : ∀ (a : Addr) (pn : List (Addr × Obj)), SSs (X.suite a pn) (fun _ _ _ _ => False) (s0 :: su) g) (r : HnOk X known sub hds hs) : HnOk X known sub (.ExceptHandler (some (.Name c np)) none (s0 :: su) hp :: hds) (⟨c, none, fun _ => g⟩ :: hs)
  | as {c n : Str} {i : Nat} {f : Exc → Env → SRes} {s0 : Stmt} {su : List Stmt} {np hp : Pos} {hds : List ExceptHandler} {hs : List Hn} (hg : Gl X c) (hm : X.mg c = some (.ref (He.ga X.K c))) (hdb : (c == ("__debug__" : Str)) = false) (hi : X.N[i]? = some n) (hln : X.env.kindOf n = some .local)
      (hsu : SuOk X (s0 :: su) (tAs X.K known sub c i f)) (r : HnOk X known sub hds hs) : HnOk X known sub (.ExceptHandler (some (.Name c np)) (some n) (s0 :: su) hp :: hds) (⟨c, some i, f⟩ :: hs)
section
variable {X : Cx} {W : WX} {known : List Str} {sub : Str → Str → Bool} {body : List Stmt} {h0 : ExceptHandler} {hds : List ExceptHandler} {hs : List Hn} {fb : Env → SRes} {pos : Pos} {D : Ends}
/-- a clause's reading -/
def hdOf (X : Cx) (known : List Str) (sub : Str → Str → Bool) (h : Hn) : Hd := ⟨.ref (He.ga X.K h.c), h.o, fun a cls d => match h.o with
  | none => tS X.K (fun _ _ _ _ => False) (h.f ⟨Str.empty, []⟩)
  | some i => tAs X.K known sub h.c i h.f a cls d⟩
theorem hds_ok : ∀ {hds : List ExceptHandler} {hs : List Hn}, HnOk X known sub hds hs → HsOk X hds (hs.map (hdOf X known sub)) := fun h => by
  induction h with
  | nil => exact .nil
  | plain hg hm hdb hsu r ih => exact .plain ⟨hg, hdb, .inl hm⟩ (fun a oe cls d pn _ _ => hsu a _) ih
  | as hg hm hdb hi hln hsu r ih => exact .as ⟨hg, hdb, .inl hm⟩ hi hln hsu ih
theorem hand_ok {env e1 : Env} {F H F1 H1 : Hp} {σ σ1 : St} {x : Exc} {cls : Value} {d : Option Addr} (hk : x.cls ∈ known) (R : Rel X.K e1 F1 σ1 H1) (S : Stp env σ F H e1 σ1 F1 H1) (V : XRel X.K F1 x cls d) : ∀ {hds : List ExceptHandler} {hs : List Hn}, HnOk X known sub hds hs →
    (∀ c ∈ known, ∀ h ∈ hs, PySem.W.exmOne X.K (.ref (He.ga X.K c)) (.ref (He.ga X.K h.c)) = some (sub c h.c)) → SPost X.K W env F σ H D (hand sub hs x e1) → wHds X.K W D (hs.map (hdOf X known sub)) cls d σ1 H1 := by
  intro hds hs hh
  have hcls := V.1
  induction hh with
  | nil =>
    intro _ p
    exact p cls d σ1 F1 H1 R S V
  | @plain c g s0 su np hp hds hs hg hm hdb hsu r ih =>
    intro hsub p
    have e := hsub x.cls hk _ List.mem_cons_self
    rw [← hcls] at e
    refine ⟨sub x.cls c, e, fun hb a na => ?_, fun hb => ih (fun y hy h hh => hsub y hy h (List.mem_cons_of_mem _ hh)) ?_⟩
    · have p2 : SPost X.K W env F σ H D (noX (g e1)) := by
        unfold hand at p
        rw [if_pos hb] at p
        exact p
      refine ⟨e1, F1, R, ?_⟩
      have p3 := p2.then S
      show SPost X.K (fun _ _ _ _ => False) e1 F1 σ1 H1 D (g e1)
      cases hg1 : g e1 <;> (rw [hg1] at p3; first | exact p3.elim | exact p3)
    · unfold hand at p
      rw [if_neg (by rw [hb]; decide)] at p
      exact p
  | @as c n i f s0 su np hp hds hs hg hm hdb hi hln hsu r ih =>
    intro hsub p
    have e := hsub x.cls hk _ List.mem_cons_self
    rw [← hcls] at e
    refine ⟨sub x.cls c, e, fun hb a na => ?_, fun hb => ih (fun y hy h hh => hsub y hy h (List.mem_cons_of_mem _ hh)) ?_⟩
    · have p2 : SPost X.K W env F σ H D (if canSet e1 i then unX i (f x (e1.set i .un)) else .stuck) := by
        unfold hand at p
        rw [if_pos hb] at p
        exact p
      cases hc : canSet e1 i with
      | false =>
        rw [hc] at p2
        exact p2.elim
      | true =>
        rw [hc] at p2
        obtain ⟨c1, c2⟩ := canSet_ok hc
        have lt : i < σ1.length := by rw [R.len]; exact c1
        refine ⟨x, hk, hb, List.getElem?_set_self lt, e1.set i .un, F1, R.forget, V, ?_⟩
        have St1 : Stp env σ F H (e1.set i .un) (σ1.set i (some (.ref a))) F1 H1 := S.trans (Stp.forget c2)
        have p3 : SPost X.K W env F σ H D (unX i (f x (e1.set i .un))) := p2
        show SPost X.K (fun _ _ _ _ => False) (e1.set i .un) F1 (σ1.set i (some (.ref a))) H1 (endsAs (some i) D) (f x (e1.set i .un))
        cases hf : f x (e1.set i .un) with
        | rt r e2 =>
          rw [hf] at p3
          cases r with
          | d y =>
            have p4 : SPost X.K W env F σ H D (if canSet e2 i then .rt (.d y) (e2.set i .un) else .stuck) := p3
            cases hc2 : canSet e2 i with
            | false =>
              rw [hc2] at p4
              exact p4.elim
            | true =>
              rw [hc2] at p4
              intro v σ2 F2 H2 R2 S2 V2
              exact p4 v (σ2.set i none) F2 H2 R2.forget ((St1.trans S2).trans (Stp.forget (canSet_ok hc2).2)) V2
          | fr y => exact p3.elim
          | sl y => exact p3.elim
        | stuck => rw [hf] at p3; exact p3.elim
        | nx e2 => rw [hf] at p3; exact p3.elim
        | bk e2 => rw [hf] at p3; exact p3.elim
        | ct e2 => rw [hf] at p3; exact p3.elim
        | exc y e2 => rw [hf] at p3; exact p3.elim
    · unfold hand at p
      rw [if_neg (by rw [hb]; decide)] at p
      exact p
end
end PL

set_option Elab.async false
set_option linter.all false
set_option maxRecDepth 100000
set_option maxHeartbeats 4000000
/-! try in the pure layer: the rule; suites that return e.f -/
namespace PL
open PySem PySem.Spec PyProof.Rows L2 PXE
section
variable {X : Cx} {W : WX} {known : List Str} {sub : Str → Str → Bool} {body : List Stmt} {h0 : ExceptHandler} {hds : List ExceptHandler} {hs : List Hn} {fb : Env → SRes} {pos : Pos}
theorem SS.try_ (hst : X.stack = X.env :: X.outer) (hf : X.env.frame = some X.env.locals) (hN : X.N.Nodup) (tk : Takes X W)
    (hb : ∀ (W' : WX) (pn : List (Addr × Obj)) (xe : Value → Shared → Prop), Takes (X.tr pn xe) W' → PassesOwn (model X.prog X.w) X.A X.env xe → SSs (X.tr pn xe) W' body fb)
    (hh : HnOk X known sub (h0 :: hds) hs) (hsub : ∀ c ∈ known, ∀ h ∈ hs, PySem.W.exmOne X.K (.ref (He.ga X.K c)) (.ref (He.ga X.K h.c)) = some (sub c h.c)) : SS X W (.Try body (h0 :: hds) [] [] pos) (sTry known sub fb hs) := by
  refine PS.imp (ps_try_mix (tb := fun W' => tS X.K W' fb) hst hf hN tk hb (hds_ok hh)) fun D σ H q => ?_
  obtain ⟨env, F, R, p⟩ := q
  refine ⟨env, F, R, ?_⟩
  unfold sTry at p
  cases hfb : fb env with
  | exc x e1 =>
    rw [hfb] at p
    have p2 : SPost X.K W env F σ H D (if known.contains x.cls then hand sub hs x e1 else .stuck) := p
    by_cases hk : x.cls ∈ known
    · rw [if_pos (by simpa using hk)] at p2
      exact fun cls d σ1 F1 H1 R1 S1 X1 => hand_ok hk R1 S1 X1 hh hsub p2
    · rw [if_neg (by simpa using hk)] at p2
      exact p2.elim
  | stuck => rw [hfb] at p; exact p
  | nx e1 => rw [hfb] at p; exact p
  | bk e1 => rw [hfb] at p; exact p
  | ct e1 => rw [hfb] at p; exact p
  | rt r e1 => rw [hfb] at p; exact p
end
/-! ### e.f in a suite -/
def tEx (K : PySem.W.Frag) (W : WX) (i : Nat) (a : Addr) (cls : Value) (d : Option Addr) (x : Exc) (f : Env → Res Rv) : TE := fun σ H Q => σ[i]? = some (some (.ref a)) ∧ ∃ env F, Rel K env F σ H ∧ XRel K F x cls d ∧ EPost K W env F σ H Q (f env)
def SEx (X : Cx) (W : WX) (i : Nat) (a : Addr) (cls : Value) (d : Option Addr) (x : Exc) (e : Expr) (f : Env → Res Rv) : Prop := PE X e (tEx X.K W i a cls d x f)
def eXf (x : Exc) (g : Str) : Env → Res Rv := fun env => match x.fs.lookup g with
  | some d => .ok (.d d) env
  | none => .stuck
theorem look_rep {K : PySem.W.Frag} {F : Hp} {g : Str} {dv : D} : ∀ {fs : List (Str × V)} {gs : List (Str × D)}, fs.map (·.1) = gs.map (·.1) → RepL K F (fs.map (·.2)) (gs.map (·.2)) → gs.lookup g = some dv → ∃ v, fs.lookup g = some v ∧ Rep K F v dv
  | [], [], _, _, h => by cases h
  | [], _ :: _, h, _, _ => by simp at h
  | _ :: _, [], h, _, _ => by simp at h
  | (n, v) :: fs, (m, z) :: gs, h1, h2, h3 => by
    simp only [List.map_cons, List.cons.injEq] at h1
    obtain ⟨rfl, h1⟩ := h1
    cases h2 with
    | cons r1 r2 =>
      rw [List.lookup_cons] at h3 ⊢
      cases hg : (g == n) with
      | true =>
        rw [hg] at h3
        cases h3
        exact ⟨v, rfl, r1⟩
      | false =>
        rw [hg] at h3
        exact look_rep h1 r2 h3
section
variable {X : Cx} {W : WX} {i : Nat} {a : Addr} {cls : Value} {d : Option Addr} {x : Exc} {e e' : Expr} {es : List Expr} {f f' : Env → Res Rv} {fs : List (Env → Res Rv)} {pos p : Pos}
theorem SEx.lift (h : SE X W e f) : SEx X W i a cls d x e f := PE.imp h fun σ H Q q => by
  obtain ⟨_, env, F, R, _, p⟩ := q
  exact ⟨env, F, R, p⟩
theorem SEx.attr {oe : Obj} {pn : List (Addr × Obj)} {n g : Str} (T : XC X.K (He.ga X.K x.cls)) (hno : PySem.W.findIn X.K (.ref (He.ga X.K x.cls)) g = some none) (hz : Zc cls d oe) (hf : ∃ vs, oe.data = .fields vs) (hN : X.N[i]? = some n) (hv : Vis X.env.scope n)
    (hd : (n == ("__debug__" : Str)) = false := by decide) (hcd : (n == ("__classdict__" : Str)) = false := by decide) (hb : attributeBase (.Name n p) g X.env (eval (.Name n p) X.env) = eval (.Name n p) X.env := by rfl) :
    SEx (X.suite a ((a, oe) :: pn)) W i a cls d x (.Attribute (.Name n p) g pos) (eXf x g) := by
  refine PE.imp (pe_xf (C := He.ga X.K x.cls) ⟨T.ga, T.gg, T.exC, T.hd⟩ hno hz hf (pe_var (X := X.suite a ((a, oe) :: pn)) hN hv hd hcd) hb) fun σ H Q q => ?_
  obtain ⟨hs, env, F, R, V, p⟩ := q
  refine ⟨_, hs, rfl, V.1, ?_⟩
  unfold eXf at p
  cases hl : x.fs.lookup g with
  | none => rw [hl] at p; exact p.elim
  | some dv =>
    rw [hl] at p
    rcases V.2 with ⟨z, _⟩ | ⟨dd, fv, e1, e2, e3, e4⟩
    · rw [z] at hl
      cases hl
    · obtain ⟨v, hv1, rv⟩ := look_rep e3 e4 hl
      exact ⟨dd, fv, v, e1, R.le _ _ e2, hv1, p v F H R Stp.refl rv⟩
/-! tuples -/
def tAx (K : PySem.W.Frag) (W : WX) (i : Nat) (a : Addr) (cls : Value) (d : Option Addr) (x : Exc) (f : Env → Res (List D)) : TA := fun σ H Q => σ[i]? = some (some (.ref a)) ∧ ∃ env F, Rel K env F σ H ∧ XRel K F x cls d ∧ APost K W env F σ H Q (f env)
def SAx (X : Cx) (W : WX) (i : Nat) (a : Addr) (cls : Value) (d : Option Addr) (x : Exc) (es : List Expr) (fs : List (Env → Res Rv)) : Prop := PA X es (tAx X.K W i a cls d x (eSeq fs))
theorem SAx.nil : SAx X W i a cls d x [] [] := by
  refine PA.imp pa_nil fun σ H Q h => ?_
  obtain ⟨_, env, F, R, V, p⟩ := h
  exact p [] F H R Stp.refl .nil
theorem SAx.cons (sa : SEx X W i a cls d x e f) (sb : SAx X W i a cls d x es fs) (hs : starEach (e :: es) X.env = (false, eval e X.env) :: starEach es X.env := by rfl) : SAx X W i a cls d x (e :: es) (f :: fs) := by
  refine PA.imp (pa_cons sa sb hs) fun σ H Q h => ?_
  obtain ⟨hi, env, F, R, V, p⟩ := h
  unfold eSeq at p
  refine ⟨hi, env, F, R, V, ?_⟩
  cases h1 : f env with
  | stuck => rw [h1] at p; exact p
  | exc z e1 => rw [h1] at p; exact p
  | ok ra e1 =>
    rw [h1] at p
    intro y F1 H1 R1 S1 V1
    have p1 : APost X.K W env F σ H Q (match frz e1 ra with | some (d, e2) => (eSeq fs e2).bind fun ds e3 => .ok (d :: ds) e3 | none => .stuck) := p
    cases h2 : frz e1 ra with
    | none => rw [h2] at p1; exact p1.elim
    | some q =>
      obtain ⟨dv, e2⟩ := q
      rw [h2] at p1
      obtain ⟨F2, R2, S2, V2, sub⟩ := frz_ok R1 S1 V1 h2
      refine ⟨hi, e2, F2, R2, V.mono (S2.sub R), ?_⟩
      dsimp only at p1
      cases h3 : eSeq fs e2 with
      | stuck => rw [h3] at p1; exact p1
      | exc z e3 =>
        rw [h3] at p1
        exact fun c d F' H' R' S' X' => p1 c d F' H' R' (S2.trans S') X'
      | ok ds e3 =>
        rw [h3] at p1
        exact fun vs F' H' R' S' r => p1 (y :: vs) F' H' R' (S2.trans S') (.cons (V2.mono (S'.sub R2)) r)
theorem SEx.tup {x1} (h : SAx X W i a cls d x es fs) (hl : fs.length ≤ 16777216 := by exact Nat.le_of_ble_eq_true rfl) : SEx X W i a cls d x (.Tuple es x1 pos) (eTup fs) := by
  refine PE.imp (pe_tup h) fun σ H Q h => ?_
  obtain ⟨hi, env, F, R, V, p⟩ := h
  refine ⟨hi, env, F, R, V, ?_⟩
  unfold eTup at p
  cases h3 : eSeq fs env with
  | stuck => rw [h3] at p; exact p
  | exc z e3 => rw [h3] at p; exact p
  | ok ds e3 =>
    rw [h3] at p
    intro vs F' H' R' S' r
    exact ⟨by rw [r.length, eSeq_length h3, sizeLine_eq]; exact hl, fun q hq => EPost.tup p R' S' r q hq⟩
end
/-- a suite that returns -/
theorem SuOk.ret {X : Cx} {known : List Str} {sub : Str → Str → Bool} {c : Str} {i : Nat} {E : Expr} {f : Exc → Env → Res Rv} {pos : Pos}
    (h : ∀ (a : Addr) (oe : Obj) (cls : Value) (d : Option Addr) (pn : List (Addr × Obj)) (x : Exc), x.cls ∈ known → sub x.cls c = true → Zc cls d oe → (∃ vs, oe.data = .fields vs) → SEx (X.suite a ((a, oe) :: pn)) (fun _ _ _ _ => False) i a cls d x E (f x)) :
    SuOk X [.Return (some E) pos] (tAs X.K known sub c i fun x => sRet (f x)) := by
  intro a oe cls d pn hz hv
  have pe : PE (X.suite a ((a, oe) :: pn)) E (fun σ H Q => ∃ x, x.cls ∈ known ∧ sub x.cls c = true ∧ tEx X.K (fun _ _ _ _ => False) i a cls d x (f x) σ H Q) :=
    ⟨fun pins s σ H Q I q => by
      obtain ⟨x, h1, h2, h3⟩ := q
      exact (h a oe cls d pn x h1 h2 hz hv).run pins s σ H Q I h3⟩
  refine PSs.imp (pss_one (ps_ret pe)) fun D σ H q => ?_
  obtain ⟨x, h1, h2, h3, env, F, R, V, p⟩ := q
  refine ⟨x, h1, h2, h3, env, F, R, V, ?_⟩
  have p : SPost X.K (fun _ _ _ _ => False) env F σ H D (sRet (f x) env) := p
  unfold sRet at p
  cases hx : f x env with
  | stuck => rw [hx] at p; exact p
  | ok r e1 =>
    rw [hx] at p
    exact fun v F' H' R' S' V' => p v σ F' H' R' S' V'
  | exc y e1 =>
    rw [hx] at p
    exact fun cls d F' H' R' S' X' => p cls d σ F' H' R' S' X'
end PL

set_option Elab.async false
set_option linter.all false
set_option maxRecDepth 100000
set_option maxHeartbeats 4000000
/-! suites that return: comparisons, if-else -/
namespace PL
open PySem PySem.Spec PyProof.Rows L2 PXE
section
variable {K : PySem.W.Frag} {W : WX} {i : Nat} {a : Addr} {cls : Value} {d : Option Addr} {x : Exc} {env : Env} {F H : Hp} {σ : St}
theorem useX {α : Type} {fa : Env → Res Rv} {k : Rv → Env → Res α} {P : Res α → Prop} {G : V → Hp → Prop} (hi : σ[i]? = some (some (.ref a))) (V : XRel K F x cls d) (R : Rel K env F σ H) (p : P ((fa env).bind k)) (h0 : P .stuck → False)
    (hx : ∀ z e, P (.exc z e) → ∀ c d F' H', Rel K e F' σ H' → Stp env σ F H e σ F' H' → XRel K F' z c d → W c d σ H')
    (fin : ∀ ra e1 y F1 H1, Rel K e1 F1 σ H1 → Stp env σ F H e1 σ F1 H1 → RvRel K H F1 H1 e1 σ ra y → P (k ra e1) → G y H1) : tEx K W i a cls d x fa σ H G := by
  refine ⟨hi, env, F, R, V, ?_⟩
  cases ea : fa env with
  | stuck => rw [ea] at p; exact h0 p
  | exc z e1 => rw [ea] at p; exact hx z e1 p
  | ok ra e1 =>
    rw [ea] at p
    exact fun y F1 H1 R1 S1 V1 => fin ra e1 y F1 H1 R1 S1 V1 p
end
def tTx (K : PySem.W.Frag) (W : WX) (i : Nat) (a : Addr) (cls : Value) (d : Option Addr) (x : Exc) (f : Env → Res Bool) : TT := fun σ H Q => σ[i]? = some (some (.ref a)) ∧ ∃ env F, Rel K env F σ H ∧ XRel K F x cls d ∧ TPost K W env F σ H Q (f env)
def STx (X : Cx) (W : WX) (i : Nat) (a : Addr) (cls : Value) (d : Option Addr) (x : Exc) (e : Expr) (f : Env → Res Bool) : Prop := PT X e (tTx X.K W i a cls d x f)
section
variable {X : Cx} {W : WX} {i : Nat} {a : Addr} {cls : Value} {d : Option Addr} {x : Exc} {e1 e2 c : Expr} {fa fb : Env → Res Rv} {fc : Env → Res Bool} {pos : Pos}
theorem STx.cmp {op : CmpOp} {r : R2} {g : D → D → Option D} (ho : OpR X (compareOp op) r) (o2 : Op2 X r g) (sa : SEx X W i a cls d x e1 fa) (sb : SEx X W i a cls d x e2 fb) (hm : behindInMarks op e2 = false) : STx X W i a cls d x (.Compare e1 [op] [e2] pos) (tCmp g fa fb) := by
  refine PT.imp (pt_cmpR ho sa sb hm) fun σ H Q h => ?_
  obtain ⟨hi, env, F, R, V, p⟩ := h
  refine useX (P := TPost X.K W env F σ H Q) hi V R p (fun z => z) (fun z e q => q) fun ra m1 y F1 H1 R1 S1 V1 p1 => ?_
  refine useX (P := TPost X.K W env F σ H Q) hi (V.mono (S1.sub R)) R1 p1 (fun z => z) (fun z e q c d F' H' R' S' X' => q c d F' H' R' (S1.trans S') X') fun rb m2 w F2 H2 R2 S2 V2 p2 => ?_
  have A := V1.wait R1 S2
  have B := V2.older S1.dom
  cases q1 : peek m2 ra with
  | none => rw [q1] at p2; exact p2.elim
  | some dx =>
    cases q2 : peek m2 rb with
    | none => rw [q1, q2] at p2; exact p2.elim
    | some dy =>
      rw [q1, q2] at p2
      have p3 : TPost X.K W env F σ H Q (match g dx dy with | some (.bool k) => .ok k m2 | _ => .stuck) := p2
      cases q3 : g dx dy with
      | none => rw [q3] at p3; exact p3.elim
      | some dd =>
        rw [q3] at p3
        cases dd <;> first | exact p3.elim | skip
        rename_i k
        refine o2 y w dx dy _ H2 _ (peek_rep R2 A q1) (peek_rep R2 B q2) q3 fun v s => ⟨k, ?_, p3 F2 H2 R2 (S1.trans S2)⟩
        cases s X.K F2
        rfl
theorem SEx.ife (st : STx X W i a cls d x c fc) (sa : SEx X W i a cls d x e1 fa) (sb : SEx X W i a cls d x e2 fb) : SEx X W i a cls d x (.IfExp c e1 e2 pos) (eIf fc fa fb) := by
  refine PE.imp (pe_ifExp st sa sb) fun σ H Q h => ?_
  obtain ⟨hi, env, F, R, V, p⟩ := h
  refine ⟨hi, env, F, R, V, ?_⟩
  have p0 : EPost X.K W env F σ H Q ((fc env).bind fun k e1 => if k then fa e1 else fb e1) := p
  cases hc : fc env with
  | stuck => rw [hc] at p0; exact p0
  | exc z m1 => rw [hc] at p0; exact p0
  | ok k m1 =>
    rw [hc] at p0
    intro F1 H1 R1 S1
    cases k with
    | true => exact ⟨hi, m1, F1, R1, V.mono (S1.sub R), EPost.then (show EPost X.K W env F σ H Q (fa m1) from p0) S1⟩
    | false => exact ⟨hi, m1, F1, R1, V.mono (S1.sub R), EPost.then (show EPost X.K W env F σ H Q (fb m1) from p0) S1⟩
end
end PL

set_option Elab.async false
set_option linter.all false
set_option maxRecDepth 100000
set_option maxHeartbeats 4000000
/-! an own exception class called by keywords; C(..).f -/
namespace PXE
open PySem PySem.Spec PyProof.Rows PySem.W PySem.Calls
section
variable {M : Model} {A : Around} {E : Value → Shared → Prop} {hh : Heap} {gs : Array GenState} {dr : Drawn} {tk : Nat} {o : OsState} {cn cq : Str} {C N : Addr} {bs mr mrB : List Value} {hd : Bool} {sns : List Str} {sb : List Value} {ab : Bool} {col : Option Bool} {dx : Option Addr} {s0 s1 s2 s3 s5 : Option Value} {B nw ini : String} {us : List Value} {kw : List (Str × Value)}
abbrev clsO (cn cq : Str) (C N : Addr) (bs mr : List Value) (hd : Bool) (sns : List Str) (sb : List Value) (ab : Bool) (col : Option Bool) (dx : Option Addr) (s0 s1 s2 s3 s5 : Option Value) (nw : String) : Obj := excClassObj cn cq C N bs mr hd sns sb ab col dx s0 s1 s2 s3 s5 nw
theorem kw_check (F : ExcBaseFacts B nw ini mrB) (tails : ∀ X : String, mr.contains (.type X) = mrB.contains (.type X)) {Q : Unit → Shared → Prop} (at_ : hh.get? C = some (clsO cn cq C N bs mr hd sns sb ab col dx s0 s1 s2 s3 s5 nw)) (fin : Q () ⟨hh, gs, dr, tk, o⟩) :
    wpAny M A (checkBuiltinCall nw ⟨.ref C :: us, kw⟩) Q E ⟨hh, gs, dr, tk, o⟩ := by
  have over : (Value.ref C :: mr).contains (.type B) = true := (List.contains_cons ..).trans (by rw [tails, F.hasB, Bool.or_true])
  have star := F.noStar
  simp only [checkBuiltinCall, F.newRow, F.newSplit, F.newKind]
  repeat (first | refine wpAny_loadPart_at at_ ?_ | (refine wpAny_isSubtype_exc at_ ?_; rw [over]) | refine wpAny_staticBase_exc at_ ?_ | refine wpAny_madeBy_exc at_ ?_ | simp only [Bool.false_eq_true, bne_self_eq_false, if_false] | wp_step)
  exact fin
end
section
variable {prog : Program} {w : World} {A : Around} {E : Value → Shared → Prop} {R : Result → Shared → Prop} {hh : Heap} {gs : Array GenState} {dr : Drawn} {tk : Nat} {o : OsState} {cn cq : Str} {C N : Addr} {bs mr mrB : List Value} {hd : Bool} {sns : List Str} {sb : List Value} {ab : Bool} {col : Option Bool} {dx : Option Addr} {s0 s1 s2 s3 s5 : Option Value} {B nw ini : String} {us : List Value} {kw : List (Str × Value)}
theorem kw_new (F : ExcBaseFacts B nw ini mrB) (tails : ∀ X : String, mr.contains (.type X) = mrB.contains (.type X)) (at_ : hh.get? C = some (clsO cn cq C N bs mr hd sns sb ab col dx s0 s1 s2 s3 s5 nw))
    (fin : R (.ok (.ret (.ref (hh.objs.size + 1)))) ⟨(hh.push (kdv_tup us)).push (PySem.HandSPX.excO C hh.objs.size), gs, dr, tk, o⟩) (short : us.length ≤ sizeLine) : codeAny (model prog w) A (.builtin nw ⟨.ref C :: us, kw⟩) R ⟨hh, gs, dr, tk, o⟩ := by
  have ends_ := F.ends
  have c1 : (Value.ref C :: mr).contains (.type B) = true := (List.contains_cons ..).trans (by rw [tails, F.hasB, Bool.or_true])
  have c2 : (Value.ref C :: mr).contains (.type "AttributeError") = false := (List.contains_cons ..).trans (by rw [tails, F.noAttr]; rfl)
  have c3 : (Value.ref C :: mr).contains (.type "NameError") = false := (List.contains_cons ..).trans (by rw [tails, F.noName]; rfl)
  refine codeAny_builtinAt F.entry ?_
  unfold Builtin.«BaseException.__new__»
  refine PySem.wpAt_bind ?_
  show PySem.wpAt _ _ _ (stack >>= _) _ _ _
  refine PySem.wpAt_bind (PySem.wpAt_stack fun p below => PySem.wpAt_of_wpAny ?_)
  wp_walk
  refine PySem.wpAt_of_wpAny ?_
  rw [F.owner]
  repeat (first | with_reducible refine wpAny_madeHere_exc F.canon at_ ?_ | with_reducible refine wpAny_loadPart_at at_ ?_ | (with_reducible refine wpAny_isSubtype_exc at_ ?_; first | rw [c1] | rw [c2] | rw [c3]) | wp_step)
  show R _ _
  rw [Heap.size_push]
  exact fin
theorem kw_type {fI : Addr} {Q : Fin → Shared → Prop} (F : ExcBaseFacts B nw ini mrB) (tails : ∀ X : String, mr.contains (.type X) = mrB.contains (.type X)) (at_ : hh.get? C = some (clsO cn cq C N bs mr hd sns sb ab col dx s0 s1 s2 s3 s5 nw))
    (li : Looks (model prog w) hh (typeLookup (.ref C) "__init__") (some (.ref fI))) (lb : ∀ self, Looks (model prog w) hh (bindSpecial (.ref fI) self) (.ref fI, [self])) (short : us.length ≤ sizeLine)
    (fin : codeAny (model prog w) A (.call (.ref fI) ⟨.ref (hh.objs.size + 1) :: us, kw⟩) (fun r s' => match r with | .ok (.ret v) => v = .none ∧ Q (.done (.ret (.ref (hh.objs.size + 1)))) s' | .ok _ => False | .error e => E e s')
      ⟨(hh.push (kdv_tup us)).push (PySem.HandSPX.excO C hh.objs.size), gs, dr, tk, o⟩) : wpAny (model prog w) A (Builtin.«type.__call__» ⟨.ref C :: us, kw⟩) Q E ⟨hh, gs, dr, tk, o⟩ := by
  repeat (first | with_reducible refine wpAny_loadPart_at at_ ?_ | with_reducible refine wpAny_madeBy_exc at_ ?_ | wp_step)
  refine codeAny_call_builtin_code (Code.quiet_builtin _ F.quiet) (kw_check F tails at_ (kw_new F tails at_ ?_ short))
  show wpAny _ _ _ _ _ _
  have up : ∀ b u, hh.get? b = some u → ((hh.push (kdv_tup us)).push (PySem.HandSPX.excO C hh.objs.size)).get? b = some u := fun b u e => Heap.get?_push_of_some _ (Heap.get?_push_of_some _ e)
  have at2 := up _ _ at_
  have got : ((hh.push (kdv_tup us)).push (PySem.HandSPX.excO C hh.objs.size)).get? (hh.objs.size + 1) = some (PySem.HandSPX.excO C hh.objs.size) := by heap_get
  have own : (Value.ref C :: mr).contains (.ref C) = true := by simp
  have l1 := li.keeps up
  have l2 := (lb (.ref (hh.objs.size + 1))).keeps up
  unfold isInstance
  repeat (first | with_reducible refine wpAny_loadPart_at got ?_ | (with_reducible refine wpAny_isSubtype_exc at2 ?_; rw [own]) | wp_step)
  show wpAny _ _ (typeLookup (.ref C) _) _ _ _
  refine l1.at (wpAny_holding (wpAny_bind (l2.at ?_)))
  refine wpAny_bind (wpAny_call (codeAny_mono fin fun r s' z => ?_))
  rcases r with e | (v | _ | _ | _) <;> first | exact z | exact z.elim | skip
  obtain ⟨rfl, z⟩ := z
  first
    | exact wpAny_pure (wpAny_pure z)
    | (wp_walk; exact z)
theorem kw_call {fI : Addr} (F : ExcBaseFacts B nw ini mrB) (tails : ∀ X : String, mr.contains (.type X) = mrB.contains (.type X)) (at_ : hh.get? C = some (clsO cn cq C N bs mr hd sns sb ab col dx s0 s1 s2 s3 s5 nw))
    (li : Looks (model prog w) hh (typeLookup (.ref C) "__init__") (some (.ref fI))) (lb : ∀ self, Looks (model prog w) hh (bindSpecial (.ref fI) self) (.ref fI, [self])) (short : us.length ≤ sizeLine)
    (fin : codeAny (model prog w) (A.under (.builtin "type.__call__" ⟨.ref C :: us, kw⟩)) (.call (.ref fI) ⟨.ref (hh.objs.size + 1) :: us, kw⟩) (InitBack (hh.objs.size + 1) R) ⟨(hh.push (kdv_tup us)).push (PySem.HandSPX.excO C hh.objs.size), gs, dr, tk, o⟩) :
    codeAny (model prog w) A (.call (.ref C) ⟨us, kw⟩) R ⟨hh, gs, dr, tk, o⟩ := by
  have l1 := tc_lookup
  have l2 := tc_bind (.ref C)
  have ty : (⟨hh, gs, dr, tk, o⟩ : Shared).TypeIs (.ref C) "type" := ⟨_, at_, rfl⟩
  refine codeAny_of_tree ?_
  show wpAny _ _ (callAny (.ref C) _) _ _ _
  repeat (any_goals (first | assumption | with_reducible refine wpAny_loadPart_at at_ ?_ | wp_step))
  refine ⟨rfl, ?_⟩
  refine codeAny_call_builtin_at (Code.quiet_builtin _ (by decide +kernel)) entry_typeCall (wpAny_check_type_call_sub at_ (kw_type F tails at_ li lb short ?_))
  refine codeAny_mono fin fun r s' z => ?_
  rcases r with e | (v | _ | _ | _) <;> exact z
end
end PXE

set_option Elab.async false
set_option linter.all false
set_option maxRecDepth 100000
set_option maxHeartbeats 4000000
/-! what the head must say of the own exceptions -/
namespace PXE
open PySem PySem.Spec PyProof.Rows L2 NdefX
/-- an own exception class as its text tells it: its name, its fields, its __init__ -/
structure XqD where
  c : Str
  fs : List Str
  qual : Str
  params : Arguments
  body : List Stmt
  scope : Scope
  dfl : List He.Dv := []
abbrev InW : Type := Option (Str × Str × Arguments × FuncBody × Scope × Addr × List Str × Addr)
def iAd (K : PySem.W.Frag) (c : Str) : Addr := He.ma K (He.ga K c) "__init__"
def initW (K : PySem.W.Frag) (c : Str) : InW := match K.lookup (iAd K c) with
  | some ⟨_, _, .func fd, _⟩ => some (fd.name, fd.qualname, fd.params, fd.body, fd.scope, fd.globals, fd.closure.map (·.1), fd.builtins)
  | _ => none
def XqD.val (d : XqD) : InW := some ("__init__", d.qual, d.params, .stmts d.body, d.scope, mainGlobals, ["__class__"], builtinsNs)
def cellB (K : PySem.W.Frag) (C : Addr) : List (Str × Addr) → Bool
  | [(_, cc)] => (match K.lookup cc with
    | some ⟨_, _, .cell (some (.ref D)), _⟩ => decide (D = C)
    | _ => false)
  | _ => false
def fileB (K : PySem.W.Frag) (file : Str) : Value → Bool
  | .ref a => (match K.lookup a with
    | some ⟨_, _, .fields vs, _⟩ => (match vs[2]? with
      | some (Value.str f _) => decide (f = file)
      | _ => false)
    | _ => false)
  | _ => false
def initB (K : PySem.W.Frag) (file : Str) (d : XqD) : Bool := match K.lookup (iAd K d.c) with
  | some ⟨_, _, .func fd, _⟩ => PySem.W.codeIn K fd.code d.qual && (He.dflB K fd.defaults (d.dfl.map (He.Dv.v K)) && (cellB K (He.ga K d.c) fd.closure && fileB K file fd.code))
  | _ => false
def XqD.ok (K : PySem.W.Frag) (file : Str) (d : XqD) : Bool := xcB K (He.ga K d.c) && (decide (PySem.W.findIn K (.ref (He.ga K d.c)) "__init__" = some (some (.ref (iAd K d.c)))) && (decide (PySem.W.typeIn K (.ref (iAd K d.c)) = some (.type "function")) &&
  (d.fs.all (fun f => decide (PySem.W.takerIn K (He.ga K d.c) f = some none) && decide (PySem.W.findIn K (.ref (He.ga K d.c)) f = some none)) && initB K file d)))
/-- .. and what it tells then -/
structure FunI (K : PySem.W.Frag) (file : Str) (d : XqD) (fd : FuncData) : Prop where
  T : XC K (He.ga K d.c)
  iC : PySem.W.findIn K (.ref (He.ga K d.c)) "__init__" = some (some (.ref (iAd K d.c)))
  tI : PySem.W.typeIn K (.ref (iAd K d.c)) = some (.type "function")
  fl : ∀ f ∈ d.fs, PySem.W.takerIn K (He.ga K d.c) f = some none ∧ PySem.W.findIn K (.ref (He.ga K d.c)) f = some none
  ex : ∃ (oc : Value) (od : Option Addr) (dV kV doc pm : Value) (an : Option Addr) (ct : Value) (osl : Array (Option Value)) (cda cc : Addr), fd = PySem.W.fnX "__init__" d.qual d.params d.body d.scope [("__class__", cc)] dV kV doc pm an (.ref cda) ct ∧
    K.lookup (iAd K d.c) = some ⟨oc, od, .func fd, osl⟩ ∧ PySem.W.codeIn K (.ref cda) d.qual = true ∧ DflV K dV (d.dfl.map (He.Dv.v K)) ∧ (∃ oc od vs osl tf, K.lookup cda = some ⟨oc, od, .fields vs, osl⟩ ∧ vs[2]? = some (.str file tf)) ∧ ∃ oc od osl, K.lookup cc = some ⟨oc, od, .cell (some (.ref (He.ga K d.c))), osl⟩
theorem XqD.init {K : PySem.W.Frag} {file : Str} {d : XqD} (e : initW K d.c = d.val) (o : d.ok K file = true) : ∃ fd, FunI K file d fd := by
  unfold XqD.ok at o
  simp only [Bool.and_eq_true, decide_eq_true_eq, List.all_eq_true] at o
  obtain ⟨o1, o2, o3, o4, o5⟩ := o
  unfold initB at o5
  unfold initW at e
  cases q : K.lookup (iAd K d.c) with
  | none => rw [q] at o5; cases o5
  | some ob =>
    obtain ⟨oc, od, dt, osl⟩ := ob
    rw [q] at o5 e
    cases dt with
    | func fd =>
      obtain ⟨n1, n2, n3, n4, n5, n6, n7, n8, n9, n10, n11, n12, n13, n14, n15⟩ := fd
      have e2 : (some (n1, n2, n3, n4, n5, n6, n7.map (·.1), n15) : InW) = d.val := e
      unfold XqD.val at e2
      simp only [Option.some.injEq, Prod.mk.injEq] at e2
      obtain ⟨h1, h2, h3, h4, h5, h6, h7, h8⟩ := e2
      have o6 : (PySem.W.codeIn K n13 d.qual && (He.dflB K n8 (d.dfl.map (He.Dv.v K)) && (cellB K (He.ga K d.c) n7 && fileB K file n13))) = true := o5
      simp only [Bool.and_eq_true] at o6
      obtain ⟨c1, c2, c3, c4⟩ := o6
      have cl : ∃ cc, n7 = [(("__class__" : Str), cc)] := by
        cases n7 with
        | nil => simp at h7
        | cons p r =>
          obtain ⟨x, cc⟩ := p
          simp only [List.map_cons, List.cons.injEq, List.map_eq_nil_iff] at h7
          obtain ⟨rfl, rfl⟩ := h7
          exact ⟨cc, rfl⟩
      obtain ⟨cc, rfl⟩ := cl
      have cell : ∃ oc od osl, K.lookup cc = some ⟨oc, od, .cell (some (.ref (He.ga K d.c))), osl⟩ := by
        unfold cellB at c3
        dsimp only at c3
        split at c3
        · rename_i D _ z
          exact ⟨_, _, _, by rw [z, of_decide_eq_true c3]⟩
        · cases c3
      cases n13 with
      | ref cda =>
        have code : ∃ oc od vs osl tf, K.lookup cda = some ⟨oc, od, .fields vs, osl⟩ ∧ vs[2]? = some (.str file tf) := by
          unfold fileB at c4
          dsimp only at c4
          split at c4
          · rename_i vs _ z
            split at c4
            · rename_i f tf y
              exact ⟨_, _, vs, _, tf, z, by rw [y, of_decide_eq_true c4]⟩
            · cases c4
          · cases c4
        subst h1 h2 h3 h4 h5 h6 h8
        exact ⟨_, xcB_ok o1, o2, o3, o4, _, _, n8, n9, _, _, _, _, _, cda, cc, rfl, q, c1, He.dflB_ok c2, code, cell⟩
      | _ => cases c4
    | _ => cases o5
end PXE

set_option Elab.async false
set_option linter.all false
set_option maxRecDepth 100000
set_option maxHeartbeats 4000000
/-! own exceptions: their defs, their calls by keyword, C(..).f -/
namespace PXE
open PySem PySem.Spec PyProof.Rows L2 NdefX
structure XP (P : Program) (file : Str) : Prop where
  f : ((P.main.file : Str) == file) = true
  s : (P.main.scope.names.lookup ("super" : Str)).isSome = false
structure TxD (d : XqD) : Prop where
  ex : ∃ (p0 p1 p2 p3 p4 p5 : Pos) (j : Nat) (txt : Str) (pl : Sem Bool) (sts : List Stmt) (ar : Arg), d.body = .Expr (.Call (.Attribute (.Call (.Name "super" p0) [] [] p1) "__init__" p2) [.Constant (.str txt) j p3] [] p4) p5 :: sts ∧ FldSts d.fs sts ∧
    (d.params.posonlyargs ++ d.params.args).head? = some ar ∧ ar.arg = ("self" : Str) ∧ ∀ (L f cda cc : Addr), eval (.Call (.Attribute (.Call (.Name "super" p0) [] [] p1) "__init__" p2) [.Constant (.str txt) j p3] [] p4) (cenv d.qual d.scope L f cda cc) = (do
      let ov ← attributeBase (.Call (.Name "super" p0) [] [] p1) "__init__" (cenv d.qual d.scope L f cda cc) (eval (.Call (.Name "super" p0) [] [] p1) (cenv d.qual d.scope L f cda cc))
      standAt p2.atName
      let (g, first) ← holding [ov] (getMethod ov "__init__" pl)
      callWith p4 g first (backTo p4 (starEach [.Constant (.str txt) j p3] (cenv d.qual d.scope L f cda cc))) [])
  sc : NScope (nI d.fs) (("self" : Str) :: d.fs) ["__class__"] d.scope
  su : d.scope.names.lookup ("super" : Str) = some .globalImplicit
  nm : ∀ g ∈ d.fs, (g == ("__debug__" : Str)) = false ∧ (g == ("__classdict__" : Str)) = false
  l9 : d.fs.length ≤ 900
theorem FunI.fn {CX : CXT} {P : Program} {w : World} {K : PySem.W.Frag} {mg : Str → Option Value} {base : Heap} {k : Nat} {file : Str} {d : XqD} {fd : FuncData} (A : FunI K file d fd) (t : TxD d) (hP : XP P file) (ms : mg "super" = none) :
    FnOk P w K mg base CX (k + 1) (iAd K d.c) fd (("self" : Str) :: d.fs) (spI (He.ga K d.c) d.fs) := by
  obtain ⟨oc, od, dV, kV, doc, pm, an, ct, osl, cda, cc, rfl, lk, hcd, hD, ⟨c1, c2, vs, c4, tf, lc, hvs⟩, lcc⟩ := A.ex
  obtain ⟨p0, p1, p2, p3, p4, p5, j, txt, pl, sts, ar, hb, hF, hp, har, he⟩ := t.ex
  obtain ⟨c, fs, qual, params, body, scope, dfl⟩ := d
  dsimp only at *
  subst hb
  exact init_fn A.T lk hcd rfl t.sc t.su hp har ⟨c1, c2, vs, c4, file, tf, lc, hvs, hP.f⟩ lcc ms hP.s (fun g hg => ⟨(A.fl g hg).1, t.nm g hg⟩) hF t.l9 (fun L => he L _ cda cc)
/-- how it binds: mk us the arguments, res us its the values, its those of the defaults -/
theorem FunI.binds {K : PySem.W.Frag} {file : Str} {d : XqD} {fd : FuncData} (A : FunI K file d fd) (mk : List Value → Args) (m : Nat) (res : List Value → List Value → List Value)
    (h0 : d.dfl = [] → ∀ (kV doc pm : Value) (an : Option Addr) (cdv ct : Value) (cc : Addr) (us : List Value), us.length = m → bindArgs (PySem.W.fnX "__init__" d.qual d.params d.body d.scope [("__class__", cc)] .none kV doc pm an cdv ct) (mk us) = pure ((("self" : Str) :: d.fs).zip (res us [])))
    (h1 : d.dfl ≠ [] → ∀ (T : Addr) (kV doc pm : Value) (an : Option Addr) (cdv ct : Value) (cc : Addr) (us its : List Value), us.length = m → its.length = d.dfl.length → ∃ k, bindArgs (PySem.W.fnX "__init__" d.qual d.params d.body d.scope [("__class__", cc)] (.ref T) kV doc pm an cdv ct) (mk us) = seqItems? (.ref T) >>= k ∧
      k (some its.toArray) = pure ((("self" : Str) :: d.fs).zip (res us its))) : ∃ its, Vals (d.dfl.map (He.Dv.v K)) its ∧ ∀ (s : Shared) (us : List Value), K.In s.heap → us.length = m → BindsTo s fd (mk us) ((("self" : Str) :: d.fs).zip (res us its)) := by
  obtain ⟨oc, od, dV, kV, doc, pm, an, ct, osl, cda, cc, rfl, lk, hcd, hD, _, _⟩ := A.ex
  rcases hD with ⟨e, rfl⟩ | ⟨ne, T, o, its, n, rfl, lT, oT, rT⟩
  · have e' : d.dfl = [] := List.map_eq_nil_iff.mp e
    exact ⟨[], by rw [e]; exact .nil, fun s us _ hl => .of_eq (h0 e' kV doc pm an (.ref cda) ct cc us hl)⟩
  · have ne' : d.dfl ≠ [] := fun z => ne (by rw [z]; rfl)
    refine ⟨its, rT, fun s us X hl => ?_⟩
    obtain ⟨k, e1, e2⟩ := h1 ne' T kV doc pm an (.ref cda) ct cc us its hl (by rw [← rT.length, List.length_map])
    refine BindsTo.of_looks fun M => ?_
    rw [e1]
    exact looks_items X lT oT (.of_pure e2)
section
variable {X : Cx} {CX : CXT} {C fI : Addr} {k : Nat} {fd : FuncData} {fs : List Str}
/-- the call: us the written arguments, kw the keywords, ws all values -/
theorem mk_callK {pins : List (Addr × Obj)} {σ : L2.St} {H1 : Hp} {s1 : Shared} {us ws : List Value} {zs : List V} {kw : List (Str × Value)} {Q : XK} (M : XMk X CX C fI k fd fs) (hr : Room (k + 1) X.A) (hb : ∀ (s : Shared) (a : Value), X.K.In s.heap → BindsTo s fd ⟨a :: us, kw⟩ (((("self" : Str) :: fs)).zip (a :: ws)))
    (hx : Passes CX X (fun _ _ _ => False)) (I1 : Inv X pins σ H1 s1) (r1 : Vals zs ws) (short : us.length ≤ sizeLine) (hl : zs.length = fs.length) (h0 : fs = [] → Q (.ref C) none H1)
    (hq : fs ≠ [] → ∀ d, H1 d = none → Q (.ref C) (some d) (upd H1 d (.xd (fs.zip zs).reverse))) : wpAny (model X.prog X.w) X.A (call (.ref C) us kw) (MkP X pins σ Q) X.xe s1 := by
  obtain ⟨nm, N, q, bs, bm, hdct, sn, sub, ab, col, dd, k0, k1, k2, k3, k5, hC, hT⟩ := PySem.W.excInit_of I1.kIn M.T.ini
  obtain ⟨hp, g, dr, tk, os⟩ := s1
  have new1 : H1 (hp.objs.size + 1) = none := I1.hok.fresh (Nat.le_succ _)
  have up2 : ∀ b o, hp.get? b = some o → ((hp.push (PySem.W.kdv_tup us)).push (PySem.HandSPX.excO C hp.objs.size)).get? b = some o := fun b o e => Heap.get?_push_of_some _ (Heap.get?_push_of_some _ e)
  have got : ((hp.push (PySem.W.kdv_tup us)).push (PySem.HandSPX.excO C hp.objs.size)).get? (hp.objs.size + 1) = some (PySem.HandSPX.excO C hp.objs.size) := by heap_get
  have I2 := I1.laid (t' := tk) (a := hp.objs.size + 1) (o := exo (hp.objs.size + 1) C none) (h' := (hp.push (PySem.W.kdv_tup us)).push (PySem.HandSPX.excO C hp.objs.size)) up2 (Nat.le_succ _) (exo_ok got)
  have r2 : Vals (V.ref (hp.objs.size + 1) :: zs) (Value.ref (hp.objs.size + 1) :: ws) := .cons rfl r1
  have sp : spI C fs (V.ref (hp.objs.size + 1) :: zs) (upd H1 (hp.objs.size + 1) (exo (hp.objs.size + 1) C none)) (fun v H2 => v = .non ∧ ((fs = [] ∧ H2 = upd H1 (hp.objs.size + 1) (exo (hp.objs.size + 1) C none)) ∨
      (fs ≠ [] ∧ ∃ d, H1 d = none ∧ d ≠ hp.objs.size + 1 ∧ H2 = Hfin (upd H1 (hp.objs.size + 1) (exo (hp.objs.size + 1) C none)) (hp.objs.size + 1) C d (fs.zip zs).reverse))) (fun _ _ _ => False) :=
    ⟨_, _, rfl, hl, upd_same, fun z => ⟨rfl, .inl ⟨z, rfl⟩⟩, fun z dx hn hne => ⟨rfl, .inr ⟨z, dx, by rw [upd_ne hne] at hn; exact hn, hne, rfl⟩⟩⟩
  refine wpAny_call (kw_call F.excBase_Exception hT hC (PySem.W.looks_findIn I1.kIn M.iC) (fun self => PySem.W.bind_fn I1.kIn self M.tI) short
    (codeAny_mono (M.F.run _ X.stack _ _ ⟨Value.ref (hp.objs.size + 1) :: us, kw⟩ (Value.ref (hp.objs.size + 1) :: ws) _ _ (fun _ _ _ => False) (hr.make C us kw) (I2.env0.make C us kw) (hb _ _ I2.kIn) r2 sp) fun r s' hq' => ?_))
  cases r with
  | error er => exact hx pins σ _ _ er s' I2 hq'
  | ok fl =>
    cases fl with
    | ret u =>
      obtain ⟨v, H2, os2, bare2, un2, hok2, rv, ev, hh⟩ := hq'
      subst ev
      obtain ⟨h2, g2, d2, t2, os'⟩ := s'
      rcases hh with ⟨z, rfl⟩ | ⟨z, d, hd1, hne, rfl⟩
      · exact ⟨rv, mk_bare (d2 := d2) (t2 := t2) M.T I1 (Nat.le_succ _) up2 un2 hok2 os2 bare2 (h0 z)⟩
      · have e := mk_end (d2 := d2) (t2 := t2) (raises_own M.T.exC M.T.tyC) I1 (Nat.le_succ _) up2 un2 hok2 os2 bare2 fin_a (fin_d hne) hd1 (Q := Q) (by rw [fin_free new1 hne]; exact hq z d hd1)
        exact ⟨rv, e⟩
    | next => exact False.elim hq'
    | brk => exact False.elim hq'
    | cont => exact False.elim hq'
end
/-- the heap behind the making holds all -/
theorem mk_inv {X : Cx} {pins : List (Addr × Obj)} {σ : L2.St} {H : Hp} {sI s' : Shared} (I : Inv X pins σ H sI) (k : ∀ b o, sI.heap.get? b = some o → s'.heap.get? b = some o) (os : s'.os = sI.os) (ag : AllBare s'.gens) : Inv X pins σ H s' :=
  I.call' (ch := []) os (Un.kept k) (I.hok.kept k) ag fun b z => absurd z (by simp)
/-- C(..).f -/
theorem pe_mkf {X : Cx} {e : Expr} {n : Str} {t : L2.St → Hp → XK → Prop} {pos : Pos} (h : PMk X e t) (hb : attributeBase e n X.env (eval e X.env) = eval e X.env := by rfl) :
    PE X (.Attribute e n pos) (fun σ H Q => t σ H fun cls d H' => ∃ (C dd : Addr) (fs : List (Str × V)) (v : V), cls = .ref C ∧ XC X.K C ∧ PySem.W.findIn X.K (.ref C) n = some none ∧ d = some dd ∧ H' dd = some (.xd fs) ∧ fs.lookup n = some v ∧ Q v H') := by
  refine ⟨fun pins s σ H Q I q => ?_⟩
  refine attr_of hb (thn (h pins s σ H _ I q) fun u s1 hh => ?_)
  obtain ⟨a, oe, vs, sI, H', cls, d, rfl, J, kp, gone, got, hz, hdt, _, na, os, ag, _, C, dd, fs, v, rfl, T, hno, rfl, hd, hl, hq⟩ := hh
  have J1 : Inv X pins σ H' s1 := mk_inv J kp os ag
  have hx : ObjOk X.prog X.w H' s1.heap dd (.xd fs) := J1.hok dd _ hd
  obtain ⟨mA, hns, hr⟩ := hx
  obtain ⟨od, ho, hlk⟩ := lookIn_ns hns
  obtain ⟨u, hu, ru⟩ := RelO.some_of (v := v) (o := mA n) (by rw [← hl]; exact hr n)
  have IA : PySem.W.InstAt s1.heap a oe C (some od) := ⟨got, hz.1, by unfold PySem.W.notCls; rw [hdt] <;> rfl, by rw [hz.2]; exact ho⟩
  exact PySem.HandSPX.exc_get J1.kIn IA T.ga T.gg T.exC (PySem.W.findObj_own T.hd hno rfl (by rw [hlk, hu])) (handed_of ru) ⟨v, H', J1.tok _, ru, hq⟩
end PXE

set_option Elab.async false
set_option linter.all false
set_option maxRecDepth 100000
set_option maxHeartbeats 4000000
/-! own exceptions in the pure layer: by keyword, C(..).f, the facts at hand -/
namespace PL
open PySem PySem.Spec PyProof.Rows L2 PXE
section
variable {X : Cx} {W : WX} {e : Expr} {c f : Str} {fa : Env → Res Rv} {k : Nat} {p pos kpos : Pos} {fI : Addr} {fd : FuncData}
/-- C(f = e) -/
theorem SM.kw1 (M : XMk X (L2.CX X.prog X.w) (He.ga X.K c) fI k fd [f]) (hb : ∀ (s : Shared) (a u : Value), X.K.In s.heap → BindsTo s fd ⟨[a], [(f, u)]⟩ ([("self" : Str), f].zip [a, u])) (glo : X.mg c = some (.ref (He.ga X.K c))) (dbg : (c == ("__debug__" : Str)) = false) (hr : Room (k + 1) X.A) (hg : Gl X c) (ha : SE X W e fa)
    (hall : (backToKw pos (keywordEach [⟨some f, e, kpos⟩] X.env)).all (·.1.isSome) = true := by rfl) (hks : (backToKw pos (keywordEach [⟨some f, e, kpos⟩] X.env)).filterMap (·.1) = [f] := by rfl)
    (hpl : ((backTo pos (starEach [] X.env)).any (·.1) || (backToKw pos (keywordEach [⟨some f, e, kpos⟩] X.env)).any (·.1.isNone)) = false := by rfl) : SM X W (.Call (.Name c p) [] [⟨some f, e, kpos⟩] pos) (eMk c [f] [] [fa]) := by
  intro pins s σ H Q I h
  obtain ⟨env, F, R, q⟩ := h
  refine wpAny_Call_Name_kw (ld_glob I hg glo ?_ dbg)
  refine PySem.W.callWith_KW0 (h₀ := X.base) I.ok.mod.kin M.T.kC hall ?_ hpl
  have te : tE X.K W (eFrz fa) σ H fun y H1 => ∃ z, y :: [] = [z] ∧ ∀ d, H1 d = none → Q (.ref (He.ga X.K c)) (some d) (upd H1 d (.xd ([f].zip [z]).reverse)) := by
    refine ⟨env, F, R, ?_⟩
    unfold eMk eSeq at q
    unfold eFrz
    cases hfa : fa env with
    | stuck => rw [hfa] at q; exact q
    | exc z e1 => rw [hfa] at q; exact q
    | ok r e1 =>
      rw [hfa] at q
      show EPost X.K W env F σ H _ (match frz e1 r with | some (d, e2) => .ok (.d d) e2 | none => .stuck)
      have q1 : MPost X.K W env F σ H Q ((match frz e1 r with | some (d, e2) => (eSeq [] e2).bind fun ds e3 => .ok (d :: ds) e3 | none => .stuck).bind fun ds e => if (ds ++ []).length = [f].length then .ok ⟨c, ([f].zip (ds ++ [])).reverse⟩ e else .stuck) := q
      cases hz : frz e1 r with
      | none => rw [hz] at q1; exact q1
      | some pr =>
        obtain ⟨d, e2⟩ := pr
        rw [hz] at q1
        intro y F' H' R' S' V'
        have q2 : MPost X.K W env F σ H Q (.ok ⟨c, ([f].zip ([d] ++ [])).reverse⟩ e2) := q1
        obtain ⟨_, _, q3⟩ := mk_post (vs := [y]) (dvs := []) R' S' (.cons V' .nil) (fun _ => .nil) rfl q2
        exact ⟨y, rfl, q3 (by simp)⟩
  have pk := pk_cons (nm := some f) (kpos := kpos) (SE.frz ha) pk_nil
  refine thn (pk.run pos pins s σ H (fun vs H1 => ∃ z, vs = [z] ∧ ∀ d, H1 d = none → Q (.ref (He.ga X.K c)) (some d) (upd H1 d (.xd ([f].zip [z]).reverse))) I te) fun ws s2 hh => ?_
  obtain ⟨zs, H2, I2, rz, y, rfl, hq⟩ := hh
  refine ⟨I2.kIn, ?_⟩
  rw [hks]
  cases rz with
  | @cons _ u _ us ru rn =>
    cases rn
    refine mk_callK (us := []) (ws := [u]) (zs := [y]) M hr (fun s a K => hb s a u K) ?_ I2 (.cons ru .nil) (by simp) rfl (fun z => by cases z) (fun _ d hd => hq d hd)
    exact fun pins σ H s e s' I' c => passAt (W := fun _ _ _ _ => False) takes_none5 σ pins H s e s' I' c
/-- C(..).f -/
def eMkA (g : Env → Res Exc) (n : Str) : Env → Res Rv := fun env => (g env).bind fun x e => match x.fs.lookup n with
  | some d => .ok (.d d) e
  | none => .stuck
theorem SE.mkA {g : Env → Res Exc} {n : Str} (h : SM X W e g) (hc : ∀ env x e', g env = .ok x e' → x.cls = c) (T : XC X.K (He.ga X.K c)) (hno : PySem.W.findIn X.K (.ref (He.ga X.K c)) n = some none)
    (hb : attributeBase e n X.env (eval e X.env) = eval e X.env := by rfl) : SE X W (.Attribute e n pos) (eMkA g n) := by
  refine PE.imp (pe_mkf h hb) fun σ H Q q => ?_
  obtain ⟨env, F, R, q⟩ := q
  refine ⟨env, F, R, ?_⟩
  unfold eMkA at q
  cases hg : g env with
  | stuck => rw [hg] at q; exact q
  | exc z e1 => rw [hg] at q; exact q
  | ok x e1 =>
    rw [hg] at q
    have q1 : EPost X.K W env F σ H Q (match x.fs.lookup n with | some d => .ok (.d d) e1 | none => .stuck) := q
    have ec := hc _ _ _ hg
    intro cls d F' H' R' S' V'
    refine ⟨He.ga X.K c, ?_⟩
    cases hl : x.fs.lookup n with
    | none => rw [hl] at q1; exact q1.elim
    | some dv =>
      rw [hl] at q1
      rcases V'.2 with ⟨z, _⟩ | ⟨dd, fv, e1, e2, e3, e4⟩
      · rw [z] at hl
        cases hl
      · obtain ⟨v, hv1, rv⟩ := look_rep e3 e4 hl
        exact ⟨dd, fv, v, by rw [V'.1, ec], T, hno, e1, R'.le _ _ e2, hv1, q1 v F' H' R' S' rv⟩
theorem eMk_cls {fn : List Str} {dfl : List D} {fs : List (Env → Res Rv)} : ∀ env x e', eMk c fn dfl fs env = .ok x e' → x.cls = c := fun env x e' h => by
  unfold eMk at h
  cases h1 : eSeq fs env with
  | stuck => rw [h1] at h; cases h
  | exc _ _ => rw [h1] at h; cases h
  | ok ds e1 =>
    rw [h1] at h
    have h2 : (if (ds ++ dfl).length = fn.length then Res.ok (⟨c, (fn.zip (ds ++ dfl)).reverse⟩ : Exc) e1 else .stuck) = .ok x e' := h
    split at h2
    · cases h2
      rfl
    · cases h2
end
/-- the facts at hand: written arguments alone -/
theorem ExK.of {X : Cx} {file : Str} {d : XqD} {fd : FuncData} (A : FunI X.K file d fd) (t : TxD d) (hP : XP X.prog file) (ms : X.mg "super" = none) (glo : X.mg d.c = some (.ref (He.ga X.K d.c))) (dbg : (d.c == ("__debug__" : Str)) = false)
    (hb : Binds X.K fd (("self" : Str) :: d.fs) []) : ExK X d.c d.fs 1 [] :=
  ⟨glo, dbg, iAd X.K d.c, fd, ⟨A.T, A.iC, A.tI, A.fn t hP ms⟩, [], [], hb, .nil, fun _ => .nil⟩
end PL

set_option Elab.async false
set_option linter.all false
set_option maxRecDepth 100000
set_option maxHeartbeats 4000000
/-! the head's hook with own exceptions -/
namespace PXE
open PySem PySem.Spec PyProof.Rows L2
abbrev AlX : Type := He.AlD × Bool × List InW
def obsX (fa : List He.Fa) (fn : List He.DefD) (file : Str) (xs : List XqD) (known hcls : List Str) (sub : Str → Str → Bool) (K : PySem.W.Frag) : AlX :=
  (He.obsD fa fn K, (xs.all fun d => d.ok K file) && (known.all fun c => hcls.all fun h => decide (PySem.W.exmOne K (.ref (He.ga K c)) (.ref (He.ga K h)) = some (sub c h))), xs.map fun d => initW K d.c)
def valX (fn : List He.DefD) (xs : List XqD) : AlX := (He.valD fn, true, xs.map XqD.val)
def obsXG (n : Nat) (fa : List He.Fa) (fn : List He.DefD) (file : Str) (xs : List XqD) (known hcls : List Str) (sub : Str → Str → Bool) (g : Addr → Option Obj) : AlX := obsX fa fn file xs known hcls sub (He.frG g (cStatics :: He.asD g n))
def SaysX (fa : List He.Fa) (fn : List He.DefD) (file : Str) (xs : List XqD) (known hcls : List Str) (sub : Str → Str → Bool) (K : PySem.W.Frag) : Prop := obsX fa fn file xs known hcls sub K = valX fn xs
def hookX (n : Nat) (fa : List He.Fa) (fn : List He.DefD) (file : Str) (xs : List XqD) (known hcls : List Str) (sub : Str → Str → Bool) : PySem.W.Hook where
  α := AlX
  obs := fun s => obsXG n fa fn file xs known hcls sub s.heap.get?
  val := fun _ => valX fn xs
  says := fun _ h => ∃ K : PySem.W.Frag, K.In h ∧ SaysX fa fn file xs known hcls sub K
  of := fun _ _ e => ⟨_, He.frG_in, e⟩
  keeps := fun _ _ _ ⟨K, hK, c⟩ k => ⟨K, PySem.W.Frag.In.keeps hK k, c⟩
theorem obsXG_eq {n : Nat} {fa : List He.Fa} {fn : List He.DefD} {file : Str} {xs : List XqD} {known hcls : List Str} {sub : Str → Str → Bool} {g : Addr → Option Obj} {s : Shared} (h : ∀ a, g a = s.heap.get? a) :
    obsXG n fa fn file xs known hcls sub g = (hookX n fa fn file xs known hcls sub).obs s := by
  have e : g = s.heap.get? := funext h
  rw [e] <;> rfl
section
variable {fa : List He.Fa} {fn : List He.DefD} {file : Str} {xs : List XqD} {known hcls : List Str} {sub : Str → Str → Bool} {K : PySem.W.Frag}
theorem SaysX.d (h : SaysX fa fn file xs known hcls sub K) : He.SaysD fa fn K := congrArg (fun z : AlX => z.1) h
theorem SaysX.bools (h : SaysX fa fn file xs known hcls sub K) : ((xs.all fun d => d.ok K file) && (known.all fun c => hcls.all fun h => decide (PySem.W.exmOne K (.ref (He.ga K c)) (.ref (He.ga K h)) = some (sub c h)))) = true := congrArg (fun z : AlX => z.2.1) h
theorem SaysX.x (h : SaysX fa fn file xs known hcls sub K) (i : Nat) {d : XqD} (hi : xs[i]? = some d := by rfl) : ∃ fd, FunI K file d fd := by
  have b := (Bool.and_eq_true_iff.mp h.bools).1
  have w : xs.map (fun d => initW K d.c) = xs.map XqD.val := congrArg (fun z : AlX => z.2.2) h
  have e : (xs.map fun d => initW K d.c)[i]? = (xs.map XqD.val)[i]? := by rw [w]
  rw [List.getElem?_map, List.getElem?_map, hi] at e
  exact XqD.init (Option.some.inj e) (List.all_eq_true.mp b d (List.mem_of_getElem? hi))
theorem SaysX.subs (h : SaysX fa fn file xs known hcls sub K) : ∀ c ∈ known, ∀ y ∈ hcls, PySem.W.exmOne K (.ref (He.ga K c)) (.ref (He.ga K y)) = some (sub c y) := fun c hc y hy => by
  have b := (Bool.and_eq_true_iff.mp h.bools).2
  exact of_decide_eq_true (List.all_eq_true.mp (List.all_eq_true.mp b c hc) y hy)
end
end PXE
namespace PXE
open PySem PySem.Spec PyProof.Rows L2
theorem SaysX.xc {fa : List He.Fa} {fn : List He.DefD} {file : Str} {xs : List XqD} {known hcls : List Str} {sub : Str → Str → Bool} {K : PySem.W.Frag} (h : SaysX fa fn file xs known hcls sub K) (hk : known = xs.map (·.c)) (x : Str) (hx : x ∈ known) : XC K (He.ga K x) := by
  rw [hk] at hx
  obtain ⟨d, hd, rfl⟩ := List.mem_map.mp hx
  obtain ⟨i, hi⟩ := List.mem_iff_getElem?.mp hd
  obtain ⟨fd, A⟩ := h.x i hi
  exact A.T
end PXE
namespace PL
open PySem PySem.Spec PyProof.Rows L2 PXE
theorem subs_of {K : PySem.W.Frag} {known hcls : List Str} {sub : Str → Str → Bool} (h : ∀ c ∈ known, ∀ y ∈ hcls, PySem.W.exmOne K (.ref (He.ga K c)) (.ref (He.ga K y)) = some (sub c y)) (hs : List Hn) (hm : (hs.all fun z => hcls.contains z.c) = true) :
    ∀ c ∈ known, ∀ z ∈ hs, PySem.W.exmOne K (.ref (He.ga K c)) (.ref (He.ga K z.c)) = some (sub c z.c) := fun c hc z hz => h c hc z.c (by simpa using List.all_eq_true.mp hm z hz)
end PL
namespace PL
open PySem PySem.Spec PyProof.Rows L2 PXE
theorem u64s {k : Nat} {A : Around} {v : Option Value} (r : Room k A) : (A.mark v).units + 64 < cLine := by have h := u64 r; exact h
theorem u65s {k : Nat} {A : Around} {v : Option Value} (r : Room k A) : (A.mark v).units + 65 < cLine := by have h := u65 r; exact h
end PL

set_option Elab.async false
set_option linter.all false
set_option maxRecDepth 100000
set_option maxHeartbeats 0
namespace K00
open PySem PySem.Spec PyProof.Rows L2 PL PXE
def top (i : Nat) : Stmt := PySem.Challenge.pw_saymakers_k00_whole_errors_and_what_they.main.body.getD i (.Pass ⟨0, 0, 0, 0⟩)
def d_law_box : He.DefD := ⟨("_law_box", none), "_law_box", "_law_box", defArgs (top 24), defBody (top 24), defScope (top 24), [], []⟩
def d_law_take : He.DefD := ⟨("_law_take", none), "_law_take", "_law_take", defArgs (top 25), defBody (top 25), defScope (top 25), [], []⟩
def d_law_pick : He.DefD := ⟨("_law_pick", none), "_law_pick", "_law_pick", defArgs (top 26), defBody (top 26), defScope (top 26), [], []⟩
def d_law_raise : He.DefD := ⟨("_law_raise", none), "_law_raise", "_law_raise", defArgs (top 27), defBody (top 27), defScope (top 27), [], []⟩
def d_law_caught : He.DefD := ⟨("_law_caught", none), "_law_caught", "_law_caught", defArgs (top 28), defBody (top 28), defScope (top 28), [], []⟩
def d_law_is_base : He.DefD := ⟨("_law_is_base", none), "_law_is_base", "_law_is_base", defArgs (top 29), defBody (top 29), defScope (top 29), [], []⟩
def d_law : He.DefD := ⟨("law", none), "law", "law", defArgs (top 30), defBody (top 30), defScope (top 30), [], []⟩
def fn : List He.DefD := [d_law_box, d_law_take, d_law_pick, d_law_raise, d_law_caught, d_law_is_base, d_law]
def FILE : Str := PySem.Challenge.pw_saymakers_k00_whole_errors_and_what_they.main.file
def initOf : Stmt → Stmt
  | .ClassDef _ _ _ (s :: _) _ _ _ _ _ _ _ => s
  | s => s
def x_InvalidText : XqD := ⟨"InvalidText", ["at"], "InvalidText.__init__", defArgs (initOf (top 2)), [.Expr (.Call (.Attribute (.Call (.Name "super" ⟨7, 8, 7, 13⟩) [] [] ⟨7, 8, 7, 15⟩) "__init__" ⟨7, 8, 7, 24⟩) [.Constant (.str "no such text") 0 ⟨7, 25, 7, 39⟩] [] ⟨7, 8, 7, 40⟩) ⟨7, 8, 7, 40⟩, .Assign [.Attribute (.Name "self" ⟨8, 8, 8, 12⟩) "at" ⟨8, 8, 8, 15⟩] (.Name "at" ⟨8, 18, 8, 20⟩) ⟨8, 8, 8, 20⟩], defScope (initOf (top 2)), [(.int (-1))]⟩
def x_InvalidSaying : XqD := ⟨"InvalidSaying", ["at"], "InvalidSaying.__init__", defArgs (initOf (top 3)), [.Expr (.Call (.Attribute (.Call (.Name "super" ⟨12, 8, 12, 13⟩) [] [] ⟨12, 8, 12, 15⟩) "__init__" ⟨12, 8, 12, 24⟩) [.Constant (.str "no such saying") 0 ⟨12, 25, 12, 41⟩] [] ⟨12, 8, 12, 42⟩) ⟨12, 8, 12, 42⟩, .Assign [.Attribute (.Name "self" ⟨13, 8, 13, 12⟩) "at" ⟨13, 8, 13, 15⟩] (.Name "at" ⟨13, 18, 13, 20⟩) ⟨13, 8, 13, 20⟩], defScope (initOf (top 3)), [(.int (-1))]⟩
def x_InvalidSheet : XqD := ⟨"InvalidSheet", ["at"], "InvalidSheet.__init__", defArgs (initOf (top 4)), [.Expr (.Call (.Attribute (.Call (.Name "super" ⟨17, 8, 17, 13⟩) [] [] ⟨17, 8, 17, 15⟩) "__init__" ⟨17, 8, 17, 24⟩) [.Constant (.str "no such sheet") 0 ⟨17, 25, 17, 40⟩] [] ⟨17, 8, 17, 41⟩) ⟨17, 8, 17, 41⟩, .Assign [.Attribute (.Name "self" ⟨18, 8, 18, 12⟩) "at" ⟨18, 8, 18, 15⟩] (.Name "at" ⟨18, 18, 18, 20⟩) ⟨18, 8, 18, 20⟩], defScope (initOf (top 4)), [(.int (-1))]⟩
def x_InvalidFilling : XqD := ⟨"InvalidFilling", ["at"], "InvalidFilling.__init__", defArgs (initOf (top 5)), [.Expr (.Call (.Attribute (.Call (.Name "super" ⟨22, 8, 22, 13⟩) [] [] ⟨22, 8, 22, 15⟩) "__init__" ⟨22, 8, 22, 24⟩) [.Constant (.str "no such filling") 0 ⟨22, 25, 22, 42⟩] [] ⟨22, 8, 22, 43⟩) ⟨22, 8, 22, 43⟩, .Assign [.Attribute (.Name "self" ⟨23, 8, 23, 12⟩) "at" ⟨23, 8, 23, 15⟩] (.Name "at" ⟨23, 18, 23, 20⟩) ⟨23, 8, 23, 20⟩], defScope (initOf (top 5)), [(.int (-1))]⟩
def x_InvalidMakers : XqD := ⟨"InvalidMakers", ["at"], "InvalidMakers.__init__", defArgs (initOf (top 6)), [.Expr (.Call (.Attribute (.Call (.Name "super" ⟨27, 8, 27, 13⟩) [] [] ⟨27, 8, 27, 15⟩) "__init__" ⟨27, 8, 27, 24⟩) [.Constant (.str "no such makers") 0 ⟨27, 25, 27, 41⟩] [] ⟨27, 8, 27, 42⟩) ⟨27, 8, 27, 42⟩, .Assign [.Attribute (.Name "self" ⟨28, 8, 28, 12⟩) "at" ⟨28, 8, 28, 15⟩] (.Name "at" ⟨28, 18, 28, 20⟩) ⟨28, 8, 28, 20⟩], defScope (initOf (top 6)), [(.int (-1))]⟩
def x_InvalidRules : XqD := ⟨"InvalidRules", ["at"], "InvalidRules.__init__", defArgs (initOf (top 7)), [.Expr (.Call (.Attribute (.Call (.Name "super" ⟨32, 8, 32, 13⟩) [] [] ⟨32, 8, 32, 15⟩) "__init__" ⟨32, 8, 32, 24⟩) [.Constant (.str "no such rules") 0 ⟨32, 25, 32, 40⟩] [] ⟨32, 8, 32, 41⟩) ⟨32, 8, 32, 41⟩, .Assign [.Attribute (.Name "self" ⟨33, 8, 33, 12⟩) "at" ⟨33, 8, 33, 15⟩] (.Name "at" ⟨33, 18, 33, 20⟩) ⟨33, 8, 33, 20⟩], defScope (initOf (top 7)), [(.int (-1))]⟩
def x_InvalidBook : XqD := ⟨"InvalidBook", ["at"], "InvalidBook.__init__", defArgs (initOf (top 8)), [.Expr (.Call (.Attribute (.Call (.Name "super" ⟨37, 8, 37, 13⟩) [] [] ⟨37, 8, 37, 15⟩) "__init__" ⟨37, 8, 37, 24⟩) [.Constant (.str "no such book") 0 ⟨37, 25, 37, 39⟩] [] ⟨37, 8, 37, 40⟩) ⟨37, 8, 37, 40⟩, .Assign [.Attribute (.Name "self" ⟨38, 8, 38, 12⟩) "at" ⟨38, 8, 38, 15⟩] (.Name "at" ⟨38, 18, 38, 20⟩) ⟨38, 8, 38, 20⟩], defScope (initOf (top 8)), [(.int (-1))]⟩
def x_InvalidRow : XqD := ⟨"InvalidRow", ["at"], "InvalidRow.__init__", defArgs (initOf (top 9)), [.Expr (.Call (.Attribute (.Call (.Name "super" ⟨42, 8, 42, 13⟩) [] [] ⟨42, 8, 42, 15⟩) "__init__" ⟨42, 8, 42, 24⟩) [.Constant (.str "no such row") 0 ⟨42, 25, 42, 38⟩] [] ⟨42, 8, 42, 39⟩) ⟨42, 8, 42, 39⟩, .Assign [.Attribute (.Name "self" ⟨43, 8, 43, 12⟩) "at" ⟨43, 8, 43, 15⟩] (.Name "at" ⟨43, 18, 43, 20⟩) ⟨43, 8, 43, 20⟩], defScope (initOf (top 9)), [(.int (-1))]⟩
def x_InvalidPremises : XqD := ⟨"InvalidPremises", ["at"], "InvalidPremises.__init__", defArgs (initOf (top 10)), [.Expr (.Call (.Attribute (.Call (.Name "super" ⟨47, 8, 47, 13⟩) [] [] ⟨47, 8, 47, 15⟩) "__init__" ⟨47, 8, 47, 24⟩) [.Constant (.str "no such premises") 0 ⟨47, 25, 47, 43⟩] [] ⟨47, 8, 47, 44⟩) ⟨47, 8, 47, 44⟩, .Assign [.Attribute (.Name "self" ⟨48, 8, 48, 12⟩) "at" ⟨48, 8, 48, 15⟩] (.Name "at" ⟨48, 18, 48, 20⟩) ⟨48, 8, 48, 20⟩], defScope (initOf (top 10)), [(.int (-1))]⟩
def x_InvalidProof : XqD := ⟨"InvalidProof", ["at"], "InvalidProof.__init__", defArgs (initOf (top 11)), [.Expr (.Call (.Attribute (.Call (.Name "super" ⟨52, 8, 52, 13⟩) [] [] ⟨52, 8, 52, 15⟩) "__init__" ⟨52, 8, 52, 24⟩) [.Constant (.str "no such proof") 0 ⟨52, 25, 52, 40⟩] [] ⟨52, 8, 52, 41⟩) ⟨52, 8, 52, 41⟩, .Assign [.Attribute (.Name "self" ⟨53, 8, 53, 12⟩) "at" ⟨53, 8, 53, 15⟩] (.Name "at" ⟨53, 18, 53, 20⟩) ⟨53, 8, 53, 20⟩], defScope (initOf (top 11)), [(.int (-1))]⟩
def x_InvalidFacts : XqD := ⟨"InvalidFacts", ["at"], "InvalidFacts.__init__", defArgs (initOf (top 12)), [.Expr (.Call (.Attribute (.Call (.Name "super" ⟨57, 8, 57, 13⟩) [] [] ⟨57, 8, 57, 15⟩) "__init__" ⟨57, 8, 57, 24⟩) [.Constant (.str "no such facts") 0 ⟨57, 25, 57, 40⟩] [] ⟨57, 8, 57, 41⟩) ⟨57, 8, 57, 41⟩, .Assign [.Attribute (.Name "self" ⟨58, 8, 58, 12⟩) "at" ⟨58, 8, 58, 15⟩] (.Name "at" ⟨58, 18, 58, 20⟩) ⟨58, 8, 58, 20⟩], defScope (initOf (top 12)), [(.int (-1))]⟩
def x_InvalidLot : XqD := ⟨"InvalidLot", ["at"], "InvalidLot.__init__", defArgs (initOf (top 13)), [.Expr (.Call (.Attribute (.Call (.Name "super" ⟨62, 8, 62, 13⟩) [] [] ⟨62, 8, 62, 15⟩) "__init__" ⟨62, 8, 62, 24⟩) [.Constant (.str "no such lot") 0 ⟨62, 25, 62, 38⟩] [] ⟨62, 8, 62, 39⟩) ⟨62, 8, 62, 39⟩, .Assign [.Attribute (.Name "self" ⟨63, 8, 63, 12⟩) "at" ⟨63, 8, 63, 15⟩] (.Name "at" ⟨63, 18, 63, 20⟩) ⟨63, 8, 63, 20⟩], defScope (initOf (top 13)), [(.int (-1))]⟩
def x_InvalidWorld : XqD := ⟨"InvalidWorld", ["at"], "InvalidWorld.__init__", defArgs (initOf (top 14)), [.Expr (.Call (.Attribute (.Call (.Name "super" ⟨67, 8, 67, 13⟩) [] [] ⟨67, 8, 67, 15⟩) "__init__" ⟨67, 8, 67, 24⟩) [.Constant (.str "no such world") 0 ⟨67, 25, 67, 40⟩] [] ⟨67, 8, 67, 41⟩) ⟨67, 8, 67, 41⟩, .Assign [.Attribute (.Name "self" ⟨68, 8, 68, 12⟩) "at" ⟨68, 8, 68, 15⟩] (.Name "at" ⟨68, 18, 68, 20⟩) ⟨68, 8, 68, 20⟩], defScope (initOf (top 14)), [(.int (-1))]⟩
def x_InvalidSigned : XqD := ⟨"InvalidSigned", ["at"], "InvalidSigned.__init__", defArgs (initOf (top 15)), [.Expr (.Call (.Attribute (.Call (.Name "super" ⟨72, 8, 72, 13⟩) [] [] ⟨72, 8, 72, 15⟩) "__init__" ⟨72, 8, 72, 24⟩) [.Constant (.str "no such book of signs") 0 ⟨72, 25, 72, 48⟩] [] ⟨72, 8, 72, 49⟩) ⟨72, 8, 72, 49⟩, .Assign [.Attribute (.Name "self" ⟨73, 8, 73, 12⟩) "at" ⟨73, 8, 73, 15⟩] (.Name "at" ⟨73, 18, 73, 20⟩) ⟨73, 8, 73, 20⟩], defScope (initOf (top 15)), [(.int (-1))]⟩
def x_InvalidIndex : XqD := ⟨"InvalidIndex", ["at"], "InvalidIndex.__init__", defArgs (initOf (top 16)), [.Expr (.Call (.Attribute (.Call (.Name "super" ⟨77, 8, 77, 13⟩) [] [] ⟨77, 8, 77, 15⟩) "__init__" ⟨77, 8, 77, 24⟩) [.Constant (.str "no such number") 0 ⟨77, 25, 77, 41⟩] [] ⟨77, 8, 77, 42⟩) ⟨77, 8, 77, 42⟩, .Assign [.Attribute (.Name "self" ⟨78, 8, 78, 12⟩) "at" ⟨78, 8, 78, 15⟩] (.Name "at" ⟨78, 18, 78, 20⟩) ⟨78, 8, 78, 20⟩], defScope (initOf (top 16)), [(.int (-1))]⟩
def x_Refused : XqD := ⟨"Refused", ["at"], "Refused.__init__", defArgs (initOf (top 17)), [.Expr (.Call (.Attribute (.Call (.Name "super" ⟨82, 8, 82, 13⟩) [] [] ⟨82, 8, 82, 15⟩) "__init__" ⟨82, 8, 82, 24⟩) [.Constant (.str "refused") 0 ⟨82, 25, 82, 34⟩] [] ⟨82, 8, 82, 35⟩) ⟨82, 8, 82, 35⟩, .Assign [.Attribute (.Name "self" ⟨83, 8, 83, 12⟩) "at" ⟨83, 8, 83, 15⟩] (.Name "at" ⟨83, 18, 83, 20⟩) ⟨83, 8, 83, 20⟩], defScope (initOf (top 17)), [(.int (-1))]⟩
def x_InvalidSize : XqD := ⟨"InvalidSize", ["word"], "InvalidSize.__init__", defArgs (initOf (top 18)), [.Expr (.Call (.Attribute (.Call (.Name "super" ⟨87, 8, 87, 13⟩) [] [] ⟨87, 8, 87, 15⟩) "__init__" ⟨87, 8, 87, 24⟩) [.Constant (.str "no such size") 0 ⟨87, 25, 87, 39⟩] [] ⟨87, 8, 87, 40⟩) ⟨87, 8, 87, 40⟩, .Assign [.Attribute (.Name "self" ⟨88, 8, 88, 12⟩) "word" ⟨88, 8, 88, 17⟩] (.Name "word" ⟨88, 20, 88, 24⟩) ⟨88, 8, 88, 24⟩], defScope (initOf (top 18)), []⟩
def x_NoMaker : XqD := ⟨"NoMaker", ["name"], "NoMaker.__init__", defArgs (initOf (top 19)), [.Expr (.Call (.Attribute (.Call (.Name "super" ⟨92, 8, 92, 13⟩) [] [] ⟨92, 8, 92, 15⟩) "__init__" ⟨92, 8, 92, 24⟩) [.Constant (.str "no such maker") 0 ⟨92, 25, 92, 40⟩] [] ⟨92, 8, 92, 41⟩) ⟨92, 8, 92, 41⟩, .Assign [.Attribute (.Name "self" ⟨93, 8, 93, 12⟩) "name" ⟨93, 8, 93, 17⟩] (.Name "name" ⟨93, 20, 93, 24⟩) ⟨93, 8, 93, 24⟩], defScope (initOf (top 19)), []⟩
def x_NoRule : XqD := ⟨"NoRule", ["number"], "NoRule.__init__", defArgs (initOf (top 20)), [.Expr (.Call (.Attribute (.Call (.Name "super" ⟨97, 8, 97, 13⟩) [] [] ⟨97, 8, 97, 15⟩) "__init__" ⟨97, 8, 97, 24⟩) [.Constant (.str "no such rule") 0 ⟨97, 25, 97, 39⟩] [] ⟨97, 8, 97, 40⟩) ⟨97, 8, 97, 40⟩, .Assign [.Attribute (.Name "self" ⟨98, 8, 98, 12⟩) "number" ⟨98, 8, 98, 19⟩] (.Name "number" ⟨98, 22, 98, 28⟩) ⟨98, 8, 98, 28⟩], defScope (initOf (top 20)), []⟩
def x_NotCalm : XqD := ⟨"NotCalm", ["right", "left", "row"], "NotCalm.__init__", defArgs (initOf (top 21)), [.Expr (.Call (.Attribute (.Call (.Name "super" ⟨102, 8, 102, 13⟩) [] [] ⟨102, 8, 102, 15⟩) "__init__" ⟨102, 8, 102, 24⟩) [.Constant (.str "the book is not calm") 0 ⟨102, 25, 102, 47⟩] [] ⟨102, 8, 102, 48⟩) ⟨102, 8, 102, 48⟩, .Assign [.Attribute (.Name "self" ⟨103, 8, 103, 12⟩) "right" ⟨103, 8, 103, 18⟩] (.Name "right" ⟨103, 21, 103, 26⟩) ⟨103, 8, 103, 26⟩, .Assign [.Attribute (.Name "self" ⟨104, 8, 104, 12⟩) "left" ⟨104, 8, 104, 17⟩] (.Name "left" ⟨104, 20, 104, 24⟩) ⟨104, 8, 104, 24⟩, .Assign [.Attribute (.Name "self" ⟨105, 8, 105, 12⟩) "row" ⟨105, 8, 105, 16⟩] (.Name "row" ⟨105, 19, 105, 22⟩) ⟨105, 8, 105, 22⟩], defScope (initOf (top 21)), []⟩
def x_InvalidCommand : XqD := ⟨"InvalidCommand", [], "InvalidCommand.__init__", defArgs (initOf (top 22)), [.Expr (.Call (.Attribute (.Call (.Name "super" ⟨109, 8, 109, 13⟩) [] [] ⟨109, 8, 109, 15⟩) "__init__" ⟨109, 8, 109, 24⟩) [.Constant (.str "no such command") 0 ⟨109, 25, 109, 42⟩] [] ⟨109, 8, 109, 43⟩) ⟨109, 8, 109, 43⟩], defScope (initOf (top 22)), []⟩
def xs : List XqD := [x_InvalidText, x_InvalidSaying, x_InvalidSheet, x_InvalidFilling, x_InvalidMakers, x_InvalidRules, x_InvalidBook, x_InvalidRow, x_InvalidPremises, x_InvalidProof, x_InvalidFacts, x_InvalidLot, x_InvalidWorld, x_InvalidSigned, x_InvalidIndex, x_Refused, x_InvalidSize, x_NoMaker, x_NoRule, x_NotCalm, x_InvalidCommand]
def hclsX : List Str := ["InvalidText", "InvalidSaying", "InvalidSheet", "InvalidFilling", "InvalidMakers", "InvalidRules", "InvalidBook", "InvalidRow", "InvalidPremises", "InvalidProof", "InvalidFacts", "InvalidLot", "InvalidWorld", "InvalidSigned", "InvalidIndex", "Refused", "InvalidSize", "NoMaker", "NoRule", "NotCalm", "InvalidCommand", "SayError"]
def fa : List He.Fa := [.glo "_law_box", .glo "_law_take", .glo "_law_pick", .glo "_law_raise", .glo "_law_caught", .glo "_law_is_base", .glo "law", .free "abs", .free "int", .free "len", .free "range", .glo "InvalidText", .glo "InvalidSaying", .glo "InvalidSheet", .glo "InvalidFilling", .glo "InvalidMakers", .glo "InvalidRules", .glo "InvalidBook", .glo "InvalidRow", .glo "InvalidPremises", .glo "InvalidProof", .glo "InvalidFacts", .glo "InvalidLot", .glo "InvalidWorld", .glo "InvalidSigned", .glo "InvalidIndex", .glo "Refused", .glo "InvalidSize", .glo "NoMaker", .glo "NoRule", .glo "NotCalm", .glo "InvalidCommand", .glo "SayError", .free "super"]
def knownX : List Str := ["InvalidText", "InvalidSaying", "InvalidSheet", "InvalidFilling", "InvalidMakers", "InvalidRules", "InvalidBook", "InvalidRow", "InvalidPremises", "InvalidProof", "InvalidFacts", "InvalidLot", "InvalidWorld", "InvalidSigned", "InvalidIndex", "Refused", "InvalidSize", "NoMaker", "NoRule", "NotCalm", "InvalidCommand"]
def subX (x c : Str) : Bool := decide (x = c) || decide (c = "SayError")
theorem subX_eq {x c : Str} (h : subX x c = true) (n : c ≠ "SayError") : x = c := by
  unfold subX at h
  simpa [n] using h

abbrev R : PySem.W.OpenRow := PySem.W.OpenLaw.row PySem.Challenge.rw_saymakers_k00_whole_errors_and_what_they
abbrev hk : PySem.W.Hook := hookX 5 fa fn FILE xs knownX hclsX subX
def ob (s : PySem.W.SharedT) : AlX := obsXG 5 fa fn FILE xs knownX hclsX subX (HandSHeadRun.getT s)
theorem ob_eq (s : PySem.W.SharedT) : ob s = hk.obs s.abs := obsXG_eq (HandSHeadRun.getT_eq s)
def loose1 : List PySem.Str := ["__name__", "SayError", "InvalidText", "InvalidSaying", "InvalidSheet", "InvalidFilling", "InvalidMakers", "InvalidRules", "InvalidBook", "InvalidRow", "InvalidPremises", "InvalidProof", "InvalidFacts", "InvalidLot", "InvalidWorld", "InvalidSigned", "InvalidIndex", "Refused", "InvalidSize", "NoMaker", "NoRule", "NotCalm", "InvalidCommand", "_law_box", "_law_take", "_law_pick", "_law_raise", "_law_caught", "_law_is_base"]
theorem run (w : World) : HandSHeadRun.RunEq R (PySem.W.view R.prog [30]) hk ob 40000 loose1 w := by
  intro os
  kernel_rfl
end K00

set_option Elab.async false
set_option linter.all false
set_option maxRecDepth 100000
set_option maxHeartbeats 4000000
/-! the meanings worked out: tools for the plain laws -/
namespace PL
open PySem PySem.Spec PyProof.Rows L2

/-! ### data that stand for Lean's own -/
structure DatF {α : Type} [DecidableEq α] (f : α → D) (n : Nat) : Prop where
  eqv : ∀ a b, PyData.eqv (f a) (f b) = decide (a = b)
  lay : ∀ a, (f a).canLay0 = true
  dep : ∀ a, (f a).depth ≤ n
section
variable {α β γ : Type} [DecidableEq α] [DecidableEq β] [DecidableEq γ] {f : α → D} {g : β → D} {h : γ → D} {n m k : Nat}
theorem DatF.int : DatF (fun i : Int => PyData.int i) 0 := ⟨fun a b => by simp [PyData.eqv]; rfl, fun _ => by simp [PyData.canLay0], fun _ => by simp [PyData.depth]⟩
theorem DatF.eqvAll (h : DatF f n) : ∀ xs ys : List α, PyData.eqvAll (xs.map f) (ys.map f) = decide (xs = ys)
  | [], [] => by simp [PyData.eqvAll]
  | [], _ :: _ => by simp [PyData.eqvAll]
  | _ :: _, [] => by simp [PyData.eqvAll]
  | x :: xs, y :: ys => by
    simp only [List.map_cons, PyData.eqvAll, h.eqv, DatF.eqvAll h xs ys, List.cons.injEq]
    by_cases a : x = y <;> by_cases b : xs = ys <;> simp [a, b]
theorem DatF.layAll (h : DatF f n) : ∀ xs : List α, PyData.canLayAll0 (xs.map f) = true
  | [] => by simp [PyData.canLayAll0]
  | x :: xs => by simp [PyData.canLayAll0, h.lay, DatF.layAll h xs]
theorem DatF.depAll (h : DatF f n) : ∀ xs : List α, PyData.depthAll (xs.map f) ≤ n
  | [] => by simp [PyData.depthAll]
  | x :: xs => by
    simp only [List.map_cons, PyData.depthAll]
    have := h.dep x
    have := DatF.depAll h xs
    omega
theorem DatF.tupL (h : DatF f n) : DatF (fun xs : List α => PyData.tuple (xs.map f)) (n + 1) :=
  ⟨fun a b => by simp only [PyData.eqv]; exact h.eqvAll a b, fun a => by simp only [PyData.canLay0]; exact h.layAll a, fun a => by simp only [PyData.depth]; have := h.depAll a; omega⟩
theorem DatF.lstL (h : DatF f n) : DatF (fun xs : List α => PyData.list (xs.map f)) (n + 1) :=
  ⟨fun a b => by simp only [PyData.eqv]; exact h.eqvAll a b, fun a => by simp only [PyData.canLay0]; exact h.layAll a, fun a => by simp only [PyData.depth]; have := h.depAll a; omega⟩
theorem DatF.pair (hf : DatF f n) (hg : DatF g m) : DatF (fun p : α × β => PyData.tuple [f p.1, g p.2]) (max n m + 1) := by
  refine ⟨fun a b => ?_, fun a => ?_, fun a => ?_⟩
  · obtain ⟨a1, a2⟩ := a
    obtain ⟨b1, b2⟩ := b
    simp only [PyData.eqv, PyData.eqvAll, hf.eqv, hg.eqv, Bool.and_true, Prod.mk.injEq]
    by_cases x : a1 = b1 <;> by_cases y : a2 = b2 <;> simp [x, y]
  · simp [PyData.canLay0, PyData.canLayAll0, hf.lay, hg.lay]
  · simp only [PyData.depth, PyData.depthAll]
    have := hf.dep a.1
    have := hg.dep a.2
    omega
theorem DatF.eq (h : DatF f n) (hn : n ≤ 64) (a b : α) : gEq (f a) (f b) = some (.bool (decide (a = b))) := by
  have : eqOk (f a) (f b) = true := by
    unfold eqOk PL.lay
    rw [h.lay, h.lay]
    have := h.dep a
    simp
    omega
  unfold gEq
  rw [if_pos this, h.eqv]
theorem DatF.ne (h : DatF f n) (hn : n ≤ 64) (a b : α) : gNe (f a) (f b) = some (.bool (!decide (a = b))) := by
  have : eqOk (f a) (f b) = true := by
    unfold eqOk PL.lay
    rw [h.lay, h.lay]
    have := h.dep a
    simp
    omega
  unfold gNe
  rw [if_pos this, h.eqv]
theorem DatF.any (h : DatF f n) (a : α) : ∀ xs : List α, ((xs.map f).any fun z => PyData.eqv z (f a)) = xs.contains a
  | [] => rfl
  | x :: xs => by
    rw [List.map_cons, List.any_cons, DatF.any h a xs, h.eqv, List.contains_cons]
    congr 1
    by_cases e : x = a
    · subst e; simp
    · have e' : ¬ a = x := fun z => e z.symm
      simp [e, e']
theorem DatF.inOk (h : DatF f n) (hn : n ≤ 64) (a : α) (xs : List α) : PL.inOk (f a) (xs.map f) = true := by
  unfold PL.inOk PL.lay
  rw [h.lay, h.layAll]
  have := h.dep a
  simp
  omega
theorem DatF.inL (h : DatF f n) (hn : n ≤ 64) (a : α) (xs : List α) : gIn (f a) (.list (xs.map f)) = some (.bool (xs.contains a)) := by
  unfold gIn
  dsimp only
  rw [if_pos (h.inOk hn a xs), h.any]
theorem DatF.inT (h : DatF f n) (hn : n ≤ 64) (a : α) (xs : List α) : gIn (f a) (.tuple (xs.map f)) = some (.bool (xs.contains a)) := by
  unfold gIn
  dsimp only
  rw [if_pos (h.inOk hn a xs), h.any]
theorem DatF.ninL (h : DatF f n) (hn : n ≤ 64) (a : α) (xs : List α) : gNin (f a) (.list (xs.map f)) = some (.bool (!xs.contains a)) := by
  unfold gNin
  dsimp only
  rw [if_pos (h.inOk hn a xs), h.any]
theorem DatF.ninT (h : DatF f n) (hn : n ≤ 64) (a : α) (xs : List α) : gNin (f a) (.tuple (xs.map f)) = some (.bool (!xs.contains a)) := by
  unfold gNin
  dsimp only
  rw [if_pos (h.inOk hn a xs), h.any]
theorem DatF.idx (h : DatF f n) (a : α) : ∀ xs : List α, idxD (f a) (xs.map f) = if xs.contains a then some (xs.idxOf a) else none
  | [] => rfl
  | x :: xs => by
    rw [List.map_cons]
    unfold idxD
    rw [h.eqv, DatF.idx h a xs, List.contains_cons, List.idxOf_cons]
    by_cases e : x = a
    · subst e; simp
    · have e1 : (a == x) = false := by simpa using fun z => e z.symm
      have e2 : (x == a) = false := by simpa using e
      rw [e1, e2]
      simp only [decide_eq_true_eq, e, if_false, Bool.false_or]
      cases xs.contains a <;> rfl
end

/-! ### items -/
section
variable {α : Type}
theorem atI_zero (a : α) (l : List α) : atI (a :: l) 0 = some a := by
  unfold atI ixN
  rw [if_pos (by decide), if_pos (by simp only [List.length_cons]; omega)]
  rfl
theorem atI_one (a b : α) (l : List α) : atI (a :: b :: l) 1 = some b := by
  unfold atI ixN
  rw [if_pos (by decide), if_pos (by simp only [List.length_cons]; omega)]
  rfl
theorem atI_two (a b c : α) (l : List α) : atI (a :: b :: c :: l) 2 = some c := by
  unfold atI ixN
  rw [if_pos (by decide), if_pos (by simp only [List.length_cons]; omega)]
  rfl
theorem atI_nat {l : List α} {k : Nat} (h : k < l.length) : atI l ((k : Nat) : Int) = some l[k] := by
  unfold atI ixN
  rw [if_pos (by omega), if_pos (by omega)]
  simp [List.getElem?_eq_getElem h]
theorem atI_nat? {l : List α} {k : Nat} (h : k < l.length) : atI l ((k : Nat) : Int) = l[k]? := by
  rw [atI_nat h, List.getElem?_eq_getElem h]
theorem atI_last {l : List α} (a : α) : atI (l ++ [a]) (-1) = some a := by
  unfold atI ixN
  rw [if_neg (by decide), if_pos (by simp only [List.length_append, List.length_cons, List.length_nil]; omega)]
  have : ((-1 : Int) + ((l ++ [a]).length : Nat)).toNat = l.length := by
    simp only [List.length_append, List.length_cons, List.length_nil]
    omega
  show (l ++ [a])[((-1 : Int) + ((l ++ [a]).length : Nat)).toNat]? = some a
  rw [this, List.getElem?_append_right (Nat.le_refl _)]
  simp
end

/-! ### comprehensions -/
/-- one turn -/
def lcT (vs : List Nat) (g : Tg) (t : Env → Res Bool) (f : Env → Res Rv) (e : Env) (x : D) : Res (Option D) := match g x (wipeE vs e) with
  | none => .stuck
  | some e2 => match t e2 with
    | .ok false e3 => .ok none (restE vs e e3)
    | .ok true e3 => (match f e3 with
      | .ok r e4 => (match frz e4 r with
        | some (d, e5) => .ok (some d) (restE vs e e5)
        | none => .stuck)
      | _ => .stuck)
    | _ => .stuck
section
variable {vs : List Nat} {g : Tg} {t : Env → Res Bool} {f : Env → Res Rv}
theorem lcGo_cons {x : D} {xs : List D} {e : Env} : lcGo vs g t f (x :: xs) e = match lcT vs g t f e x with
    | .ok none e' => lcGo vs g t f xs e'
    | .ok (some d) e' => (match lcGo vs g t f xs e' with
      | .ok ds e6 => .ok (d :: ds) e6
      | _ => .stuck)
    | _ => .stuck := by
  show (match g x (wipeE vs e) with
    | none => _
    | some e2 => _) = _
  unfold lcT
  cases g x (wipeE vs e) with
  | none => rfl
  | some e2 =>
    dsimp only
    cases t e2 with
    | stuck => rfl
    | exc y e3 => rfl
    | ok b e3 =>
      cases b with
      | false => rfl
      | true =>
        dsimp only
        cases f e3 with
        | stuck => rfl
        | exc y e4 => rfl
        | ok r e4 =>
          dsimp only
          cases frz e4 r with
          | none => rfl
          | some p => obtain ⟨d, e5⟩ := p; rfl
theorem lcGo_nil {e : Env} : lcGo vs g t f [] e = .ok [] e := rfl
/-- the slots stay -/
theorem lcGo_pure {e : Env} (r : D → Option D) : ∀ {xs : List D}, (∀ x ∈ xs, lcT vs g t f e x = .ok (r x) e) → lcGo vs g t f xs e = .ok (xs.filterMap r) e
  | [], _ => rfl
  | x :: xs, h => by
    have ih := lcGo_pure r (xs := xs) fun y hy => h y (List.mem_cons_of_mem _ hy)
    rw [lcGo_cons, h x List.mem_cons_self]
    cases hr : r x with
    | none => rw [List.filterMap_cons_none hr]; exact ih
    | some d => rw [List.filterMap_cons_some hr]; dsimp only; rw [ih]
/-- .. over things that stand for others -/
theorem lcGo_map {α : Type} {e : Env} (q : α → D) (r : α → Option D) {xs : List α} (h : ∀ x ∈ xs, lcT vs g t f e (q x) = .ok (r x) e) : lcGo vs g t f (xs.map q) e = .ok (xs.filterMap r) e := by
  induction xs with
  | nil => rfl
  | cons x xs ih =>
    rw [List.map_cons, lcGo_cons, h x List.mem_cons_self]
    have ih := ih fun y hy => h y (List.mem_cons_of_mem _ hy)
    cases hr : r x with
    | none => rw [List.filterMap_cons_none hr]; exact ih
    | some d => rw [List.filterMap_cons_some hr]; dsimp only; rw [ih]
/-- something changes -/
theorem lcGo_inv (P : Env → Prop) (Q : D → Prop) : ∀ {xs : List D} {e : Env}, P e → (∀ x ∈ xs, ∀ e, P e → ∃ o e', lcT vs g t f e x = .ok o e' ∧ P e' ∧ ∀ d, o = some d → Q d) → ∃ ds e', lcGo vs g t f xs e = .ok ds e' ∧ P e' ∧ ds.length ≤ xs.length ∧ ∀ d ∈ ds, Q d
  | [], e, he, _ => ⟨[], e, rfl, he, Nat.le_refl _, fun d hd => by simp at hd⟩
  | x :: xs, e, he, h => by
    obtain ⟨o, e1, h1, h2, h3⟩ := h x List.mem_cons_self e he
    obtain ⟨ds, e2, h4, h5, h6, h7⟩ := lcGo_inv P Q (xs := xs) h2 fun y hy => h y (List.mem_cons_of_mem _ hy)
    cases o with
    | none => exact ⟨ds, e2, by rw [lcGo_cons, h1]; exact h4, h5, by simp only [List.length_cons]; omega, h7⟩
    | some d =>
      refine ⟨d :: ds, e2, by rw [lcGo_cons, h1]; dsimp only; rw [h4], h5, by simp only [List.length_cons]; omega, fun d' hd => ?_⟩
      rcases List.mem_cons.mp hd with z | z
      · rw [z]; exact h3 d rfl
      · exact h7 d' z
end
/-! ### for -/
section
variable {g : Tg} {f : Env → SRes}
theorem forL_cons {x : D} {xs : List D} {e : Env} : forL g f (x :: xs) e = match g x e with
    | none => .stuck
    | some e1 => match f e1 with
      | .nx e2 => forL g f xs e2
      | .ct e2 => forL g f xs e2
      | .bk e2 => .nx e2
      | r => r := rfl
/-- a turn that goes on -/
def turn (g : Tg) (f : Env → SRes) (x : D) (e : Env) : Option Env := match g x e with
  | none => none
  | some e1 => match f e1 with
    | .nx e2 => some e2
    | .ct e2 => some e2
    | _ => none
theorem forL_turn {x : D} {xs : List D} {e e' : Env} (h : turn g f x e = some e') : forL g f (x :: xs) e = forL g f xs e' := by
  rw [forL_cons]
  unfold turn at h
  cases hg : g x e with
  | none => rw [hg] at h; cases h
  | some e1 =>
    rw [hg] at h
    dsimp only at h ⊢
    cases hf : f e1 <;> rw [hf] at h <;> first | (cases h; rfl) | cases h
theorem forL_inv (P : Env → Prop) : ∀ {xs : List D} {e : Env}, P e → (∀ x ∈ xs, ∀ e, P e → ∃ e', turn g f x e = some e' ∧ P e') → ∃ e', forL g f xs e = .nx e' ∧ P e'
  | [], e, he, _ => ⟨e, rfl, he⟩
  | x :: xs, e, he, h => by
    obtain ⟨e1, h1, h2⟩ := h x List.mem_cons_self e he
    obtain ⟨e2, h3, h4⟩ := forL_inv P (xs := xs) h2 fun y hy => h y (List.mem_cons_of_mem _ hy)
    exact ⟨e2, by rw [forL_turn h1]; exact h3, h4⟩
/-- a fold -/
theorem forL_fold {α S : Type} (q : α → D) (E : S → Env) (step : S → α → S) : ∀ {xs : List α} {s : S}, (∀ x ∈ xs, ∀ s, turn g f (q x) (E s) = some (E (step s x))) → forL g f (xs.map q) (E s) = .nx (E (xs.foldl step s))
  | [], s, _ => rfl
  | x :: xs, s, h => by
    rw [List.map_cons, forL_turn (h x List.mem_cons_self s)]
    exact forL_fold q E step fun y hy => h y (List.mem_cons_of_mem _ hy)
end

/-! ### small things -/
/-- a slot that may be stored into -/
inductive Fre : Sl → Prop where
  | un : Fre .un
  | sh (d : D) : Fre (.sh d)
theorem enumD_mem {d : D} : ∀ {ds : List D} {k : Nat}, d ∈ enumD k ds → ∃ (i : Nat) (x : D), d = .tuple [.int (i : Nat), x] ∧ x ∈ ds
  | [], k, h => by cases h
  | y :: ds, k, h => by
    unfold enumD at h
    rcases List.mem_cons.mp h with z | z
    · exact ⟨k, y, z, List.mem_cons_self⟩
    · obtain ⟨i, x, h1, h2⟩ := enumD_mem z
      exact ⟨i, x, h1, List.mem_cons_of_mem _ h2⟩

/-- a fold, the slots told by a relation -/
theorem forL_rel {g : Tg} {f : Env → SRes} {α S : Type} (q : α → D) (P : S → Env → Prop) (step : S → α → S) : ∀ {xs : List α} {s : S} {e : Env}, P s e → (∀ x ∈ xs, ∀ s e, P s e → ∃ e', turn g f (q x) e = some e' ∧ P (step s x) e') →
    ∃ e', forL g f (xs.map q) e = .nx e' ∧ P (xs.foldl step s) e'
  | [], s, e, he, _ => ⟨e, rfl, he⟩
  | x :: xs, s, e, he, h => by
    obtain ⟨e1, h1, h2⟩ := h x List.mem_cons_self s e he
    obtain ⟨e2, h3, h4⟩ := forL_rel q P step (xs := xs) h2 fun y hy => h y (List.mem_cons_of_mem _ hy)
    exact ⟨e2, by rw [List.map_cons, forL_turn h1]; exact h3, h4⟩
theorem enumD_map {α : Type} (q : α → D) : ∀ (xs : List α) (k : Nat), enumD k (xs.map q) = (xs.zipIdx k).map fun p => .tuple [.int ((p.2 : Nat) : Int), q p.1]
  | [], _ => rfl
  | x :: xs, k => by
    rw [List.map_cons, List.zipIdx_cons, List.map_cons]
    unfold enumD
    rw [enumD_map q xs (k + 1)]
theorem zip_filter {α : Type} (c : α → Bool) (d : α) : ∀ (xs : List α) (k : Nat), (xs.zipIdx k).filterMap (fun p => if c p.1 = true then some p.2 else none) = ((List.range xs.length).filter fun i => c (xs.getD i d)).map fun i => k + i
  | [], _ => rfl
  | x :: xs, k => by
    have e2 : ((fun i => k + i) ∘ Nat.succ) = fun i => k + 1 + i := by funext i; show k + (i + 1) = _; omega
    have e3 : ((fun i => c ((x :: xs).getD i d)) ∘ Nat.succ) = fun i => c (xs.getD i d) := by funext i; rfl
    rw [List.zipIdx_cons, List.length_cons, List.range_succ_eq_map, List.filter_cons, List.filter_map, e3, List.filterMap_cons, zip_filter c d xs (k + 1)]
    have e1 : (x :: xs).getD 0 d = x := rfl
    rw [e1]
    cases c x with
    | true =>
      simp only [if_true, List.map_cons, List.map_map, e2]
      rfl
    | false => simp only [Bool.false_eq_true, if_false, List.map_map, e2]
theorem foldl_filter {α β : Type} (c : α → Bool) (f : α → β) : ∀ (xs : List α) (acc : List β), xs.foldl (fun a x => if c x = true then a ++ [f x] else a) acc = acc ++ xs.filterMap (fun x => if c x = true then some (f x) else none)
  | [], acc => by simp
  | x :: xs, acc => by
    rw [List.foldl_cons, foldl_filter c f xs, List.filterMap_cons]
    cases c x with
    | true => simp
    | false => simp

/-- .. with the turn's number -/
theorem forL_relN {g : Tg} {f : Env → SRes} {α S : Type} (q : α → D) (P : Nat → S → Env → Prop) (step : S → α → S) (n : Nat) : ∀ {xs : List α} {s : S} {e : Env} {k : Nat}, k + xs.length ≤ n → P k s e → (∀ x ∈ xs, ∀ k s e, k < n → P k s e → ∃ e', turn g f (q x) e = some e' ∧ P (k + 1) (step s x) e') →
    ∃ e', forL g f (xs.map q) e = .nx e' ∧ P (k + xs.length) (xs.foldl step s) e'
  | [], s, e, k, _, he, _ => ⟨e, rfl, he⟩
  | x :: xs, s, e, k, hk, he, h => by
    simp only [List.length_cons] at hk
    obtain ⟨e1, h1, h2⟩ := h x List.mem_cons_self k s e (by omega) he
    obtain ⟨e2, h3, h4⟩ := forL_relN q P step n (xs := xs) (k := k + 1) (by omega) h2 fun y hy => h y (List.mem_cons_of_mem _ hy)
    refine ⟨e2, by rw [List.map_cons, forL_turn h1]; exact h3, ?_⟩
    have : k + (x :: xs).length = k + 1 + xs.length := by simp only [List.length_cons]; omega
    rw [this]
    exact h4
end PL

set_option Elab.async false
set_option linter.all false
set_option maxRecDepth 100000
set_option maxHeartbeats 4000000
namespace PL
open PySem PySem.Spec PyProof.Rows L2
theorem if_ff {α : Type} (a b : α) : (if (false = true) then a else b) = b := rfl
theorem if_tt {α : Type} (a b : α) : (if (true = true) then a else b) = a := rfl
theorem gel0 {α : Type} (a : α) (l : List α) : (a :: l)[0]? = some a := rfl
theorem gelS {α : Type} (a : α) (l : List α) (n : Nat) : (a :: l)[n + 1]? = l[n]? := rfl
end PL

set_option Elab.async false
set_option linter.all false
set_option maxRecDepth 100000
set_option maxHeartbeats 4000000
namespace K00
open PySem PySem.Spec PyProof.Rows L2 PL PXE
abbrev Env := PL.Env
/-- _law_box(script, k) -/
noncomputable def B_law_box : Env → SRes :=
  (sSeq (sSet 2 (eBinR gPlus (eBinR gTimes (eC (.int 2311)) (eVar 1)) (eC (.int 97))))
    (sSeq (sIf (tCmp gLt (eVar 1) (eB bLen [(eVar 0)])) (sSet 2 (eB bAbs [(orE (eIx (eVar 0) (eVar 1)) (eIxD (eVar 0) (eVar 1)))])) (sIf (tCmp gGt (eB bLen [(eVar 0)]) (eC (.int 0))) (sSet 2 (eBinR gPlus (eVar 2) (eBinR gTimes (eBin gMod (eB bInt [(eB bAbs [(orE (eIx (eVar 0) (eBin gMod (eB bInt [(eVar 1)]) (eB bLen [(eVar 0)]))) (eIxD (eVar 0) (eBin gMod (eB bInt [(eVar 1)]) (eB bLen [(eVar 0)]))))])]) (eC (.int 2147483629))) (eC (.int 60013))))) sNx))
    (sRet (eLst [(orE (eIx (eLst [(eC (.int 0)), (eVar 2)]) (eB bInt [(eBin gGe (eVar 2) (eBin gPow (eC (.int 10)) (eC (.int 18))))])) (eIxD (eLst [(eC (.int 0)), (eVar 2)]) (eB bInt [(eBin gGe (eVar 2) (eBin gPow (eC (.int 10)) (eC (.int 18))))]))), (eBinR gPlus (eBin gMod (eB bInt [(eBinR gPlus (eBinR gTimes (eBin gMod (eB bInt [(eVar 2)]) (eC (.int 2147483629))) (eC (.int 38377))) (eBinR gTimes (eC (.int 71129)) (eVar 1)))]) (eC (.int 2147483629))) (eC (.int 1))), (eC (.int 0))]))))
noncomputable def G_law_box : List Sl → FRes := runF 3 B_law_box
/-- _law_take(box, many) -/
noncomputable def B_law_take : Env → SRes :=
  (sSeq (sIf (tCmp gGt (orE (eIx (eVar 0) (eC (.int 0))) (eIxD (eVar 0) (eC (.int 0)))) (eC (.int 0))) (sSeq (sSet 3 (eBin gMod (eB bInt [(orE (eIx (eVar 0) (eC (.int 0))) (eIxD (eVar 0) (eC (.int 0))))]) (eVar 1)))
    (sSeq (orS (sSub 0 (eC (.int 0)) (eBin gDiv (orE (eIx (eVar 0) (eC (.int 0))) (eIxD (eVar 0) (eC (.int 0)))) (eVar 1))) (sDPutP 0 (eC (.int 0)) (eBin gDiv (orE (eIx (eVar 0) (eC (.int 0))) (eIxD (eVar 0) (eC (.int 0)))) (eVar 1))))
    (sRet (eVar 3)))) sNx)
    (sSeq (orS (sSub 0 (eC (.int 2)) (eBinR gPlus (orE (eIx (eVar 0) (eC (.int 2))) (eIxD (eVar 0) (eC (.int 2)))) (eC (.int 1)))) (sDPutP 0 (eC (.int 2)) (eBinR gPlus (orE (eIx (eVar 0) (eC (.int 2))) (eIxD (eVar 0) (eC (.int 2)))) (eC (.int 1)))))
    (sSeq (sSet 2 (eBin gMod (eB bInt [(eBinR gPlus (eBinR gTimes (eBinR gPlus (orE (eIx (eVar 0) (eC (.int 1))) (eIxD (eVar 0) (eC (.int 1)))) (eBinR gTimes (eC (.int 90007)) (orE (eIx (eVar 0) (eC (.int 2))) (eIxD (eVar 0) (eC (.int 2)))))) (eC (.int 58217))) (eC (.int 43)))]) (eC (.int 2147483563))))
    (sSeq (orS (sSub 0 (eC (.int 1)) (eBinR gPlus (eBin gMod (eB bInt [(eBinR gPlus (eBinR gTimes (eVar 2) (eC (.int 40289))) (eC (.int 27367)))]) (eC (.int 2147483629))) (eC (.int 1)))) (sDPutP 0 (eC (.int 1)) (eBinR gPlus (eBin gMod (eB bInt [(eBinR gPlus (eBinR gTimes (eVar 2) (eC (.int 40289))) (eC (.int 27367)))]) (eC (.int 2147483629))) (eC (.int 1)))))
    (sRet (eBin gMod (eB bInt [(eBin gDiv (eBinR gPlus (eBinR gTimes (eVar 2) (eC (.int 2147483647))) (orE (eIx (eVar 0) (eC (.int 1))) (eIxD (eVar 0) (eC (.int 1))))) (eC (.int 8191)))]) (eVar 1)))))))
noncomputable def G_law_take : List Sl → FRes := runF 4 B_law_take
/-- _law_pick(box, some) -/
noncomputable def B_law_pick : Env → SRes :=
  (sRet (orE (eIx (eVar 1) (eCall G_law_take [(eVar 0), (eB bLen [(eVar 1)])])) (eIxD (eVar 1) (eCall G_law_take [(eVar 0), (eB bLen [(eVar 1)])]))))
noncomputable def G_law_pick : List Sl → FRes := runF 2 B_law_pick
/-- _law_raise(number, thing) -/
noncomputable def B_law_raise : Env → SRes :=
  (sSeq (sIf (tCmp gEq (eVar 0) (eC (.int 0))) (sRaise (eMk "InvalidText" ["at"] [] [(eVar 1)])) (sIf (tCmp gEq (eVar 0) (eC (.int 1))) (sRaise (eMk "InvalidSaying" ["at"] [] [(eVar 1)])) (sIf (tCmp gEq (eVar 0) (eC (.int 2))) (sRaise (eMk "InvalidSheet" ["at"] [] [(eVar 1)])) (sIf (tCmp gEq (eVar 0) (eC (.int 3))) (sRaise (eMk "InvalidFilling" ["at"] [] [(eVar 1)])) (sIf (tCmp gEq (eVar 0) (eC (.int 4))) (sRaise (eMk "InvalidMakers" ["at"] [] [(eVar 1)])) (sIf (tCmp gEq (eVar 0) (eC (.int 5))) (sRaise (eMk "InvalidRules" ["at"] [] [(eVar 1)])) (sIf (tCmp gEq (eVar 0) (eC (.int 6))) (sRaise (eMk "InvalidBook" ["at"] [] [(eVar 1)])) (sIf (tCmp gEq (eVar 0) (eC (.int 7))) (sRaise (eMk "InvalidRow" ["at"] [] [(eVar 1)])) (sIf (tCmp gEq (eVar 0) (eC (.int 8))) (sRaise (eMk "InvalidPremises" ["at"] [] [(eVar 1)])) (sIf (tCmp gEq (eVar 0) (eC (.int 9))) (sRaise (eMk "InvalidProof" ["at"] [] [(eVar 1)])) (sIf (tCmp gEq (eVar 0) (eC (.int 10))) (sRaise (eMk "InvalidFacts" ["at"] [] [(eVar 1)])) (sIf (tCmp gEq (eVar 0) (eC (.int 11))) (sRaise (eMk "InvalidLot" ["at"] [] [(eVar 1)])) (sIf (tCmp gEq (eVar 0) (eC (.int 12))) (sRaise (eMk "InvalidWorld" ["at"] [] [(eVar 1)])) (sIf (tCmp gEq (eVar 0) (eC (.int 13))) (sRaise (eMk "InvalidSigned" ["at"] [] [(eVar 1)])) (sIf (tCmp gEq (eVar 0) (eC (.int 14))) (sRaise (eMk "InvalidIndex" ["at"] [] [(eVar 1)])) (sIf (tCmp gEq (eVar 0) (eC (.int 15))) (sRaise (eMk "Refused" ["at"] [] [(eVar 1)])) (sIf (tCmp gEq (eVar 0) (eC (.int 16))) (sRaise (eMk "InvalidSize" ["word"] [] [(eVar 1)])) (sIf (tCmp gEq (eVar 0) (eC (.int 17))) (sRaise (eMk "NoMaker" ["name"] [] [(eVar 1)])) (sIf (tCmp gEq (eVar 0) (eC (.int 18))) (sRaise (eMk "NoRule" ["number"] [] [(eVar 1)])) (sIf (tCmp gEq (eVar 0) (eC (.int 19))) (sRaise (eMk "NotCalm" ["right", "left", "row"] [] [(eVar 1), (eC (.int 5)), (eTup [(eC (.int 0)), (eC (.int 1))])])) sNx))))))))))))))))))))
    (sRaise (eMk "InvalidCommand" [] [] [])))
noncomputable def G_law_raise : List Sl → FRes := runF 2 B_law_raise
/-- _law_caught(number, thing) -/
noncomputable def B_law_caught : Env → SRes :=
  (sSeq (sTry knownX subX (sExp (eCall G_law_raise [(eVar 0), (eVar 1)]))
    [⟨"InvalidText", some 2, fun x => sRet (eTup [(eC (.int 0)), (eXf x "at")])⟩,
      ⟨"InvalidSaying", some 2, fun x => sRet (eTup [(eC (.int 1)), (eXf x "at")])⟩,
      ⟨"InvalidSheet", some 2, fun x => sRet (eTup [(eC (.int 2)), (eXf x "at")])⟩,
      ⟨"InvalidFilling", some 2, fun x => sRet (eTup [(eC (.int 3)), (eXf x "at")])⟩,
      ⟨"InvalidMakers", some 2, fun x => sRet (eTup [(eC (.int 4)), (eXf x "at")])⟩,
      ⟨"InvalidRules", some 2, fun x => sRet (eTup [(eC (.int 5)), (eXf x "at")])⟩,
      ⟨"InvalidBook", some 2, fun x => sRet (eTup [(eC (.int 6)), (eXf x "at")])⟩,
      ⟨"InvalidRow", some 2, fun x => sRet (eTup [(eC (.int 7)), (eXf x "at")])⟩,
      ⟨"InvalidPremises", some 2, fun x => sRet (eTup [(eC (.int 8)), (eXf x "at")])⟩,
      ⟨"InvalidProof", some 2, fun x => sRet (eTup [(eC (.int 9)), (eXf x "at")])⟩,
      ⟨"InvalidFacts", some 2, fun x => sRet (eTup [(eC (.int 10)), (eXf x "at")])⟩,
      ⟨"InvalidLot", some 2, fun x => sRet (eTup [(eC (.int 11)), (eXf x "at")])⟩,
      ⟨"InvalidWorld", some 2, fun x => sRet (eTup [(eC (.int 12)), (eXf x "at")])⟩,
      ⟨"InvalidSigned", some 2, fun x => sRet (eTup [(eC (.int 13)), (eXf x "at")])⟩,
      ⟨"InvalidIndex", some 2, fun x => sRet (eTup [(eC (.int 14)), (eXf x "at")])⟩,
      ⟨"Refused", some 2, fun x => sRet (eTup [(eC (.int 15)), (eXf x "at")])⟩,
      ⟨"InvalidSize", some 2, fun x => sRet (eTup [(eC (.int 16)), (eXf x "word")])⟩,
      ⟨"NoMaker", some 2, fun x => sRet (eTup [(eC (.int 17)), (eXf x "name")])⟩,
      ⟨"NoRule", some 2, fun x => sRet (eTup [(eC (.int 18)), (eXf x "number")])⟩,
      ⟨"NotCalm", some 2, fun x => sRet (eIf (tCmp gEq (eTup [(eXf x "left"), (eXf x "row")]) (eTup [(eC (.int 5)), (eTup [(eC (.int 0)), (eC (.int 1))])])) (eTup [(eC (.int 19)), (eXf x "right")]) (eC .none))⟩,
      ⟨"InvalidCommand", none, fun _ => (sRet (eTup [(eC (.int 20)), (eVar 1)]))⟩])
    (sRet (eC .none)))
noncomputable def G_law_caught : List Sl → FRes := runF 3 B_law_caught
/-- _law_is_base(number, thing) -/
noncomputable def B_law_is_base : Env → SRes :=
  (sSeq (sTry knownX subX (sExp (eCall G_law_raise [(eVar 0), (eVar 1)]))
    [⟨"SayError", none, fun _ => (sRet (eC (.bool true)))⟩])
    (sRet (eC (.bool false))))
noncomputable def G_law_is_base : List Sl → FRes := runF 2 B_law_is_base
/-- law(script) -/
noncomputable def B_law : Env → SRes :=
  (sSeq (sSet 1 (eCall G_law_box [(eVar 0), (eC (.int 0))]))
    (sSeq (sFor (itRng1 (eC (.int 21))) (gN 2) (sSeq (sSet 3 (eCall G_law_pick [(eVar 1), (eLst [(eC (.int 0)), (eUn gNeg (eC (.int 1))), (eC .none), (eC (.str "words")), (eTup [(eC (.int 1)), (eC (.int 2))]), (eLst [(eC (.int 3))]), (eC (.bool true)), (eC (.int 7))])]))
    (sIf (tOr2 (tCmp gNe (eCall G_law_caught [(eVar 2), (eVar 3)]) (eTup [(eVar 2), (eVar 3)])) (tNot1 (tVal (eCall G_law_is_base [(eVar 2), (eVar 3)])))) (sRet (eC (.bool false))) sNx)))
    (sRet (eBin gEq (eTup [(eMkA (eMk "InvalidText" ["at"] [] [(eUn gNeg (eC (.int 1)))]) "at"), (eMkA (eMk "InvalidSheet" ["at"] [] [(eC (.int 3))]) "at"), (eMkA (eMk "Refused" ["at"] [] [(eC .none)]) "at")]) (eTup [(eUn gNeg (eC (.int 1))), (eC (.int 3)), (eC .none)])))))
noncomputable def G_law : List Sl → FRes := runF 4 B_law
end K00

set_option Elab.async false
set_option linter.all false
set_option maxRecDepth 100000
set_option maxHeartbeats 8000000
namespace K00
open PySem PySem.Spec PyProof.Rows L2 PL PXE
abbrev boxD (a b c : Int) : List D := [.int a, .int b, .int c]
theorem mod_ok {i j : Int} (h : 0 < j) : gMod (.int i) (.int j) = some (.int (i % j)) := if_pos h
theorem div_ok {i j : Int} (h : 0 < j ∧ j < 18446744073709551616) : gDiv (.int i) (.int j) = some (.int (i / j)) := if_pos h
theorem ix3 (k : Int) (h : k = 0 ∨ k = 1 ∨ k = 2) : ixN (0 + 1 + 1 + 1) k = some k.toNat := by
  rcases h with rfl | rfl | rfl <;> rfl
/-- a drawn number -/
theorem take_ok (a b c : Int) {m : Int} (hm : 0 < m) (hm2 : m < 100000) : ∃ x a' b' c' : Int, (0 ≤ x ∧ x < m) ∧ G_law_take [.mu false false (.lst (boxD a b c)), .sh (.int m)] = .ok (.d (.int x)) [.mu false false (.lst (boxD a' b' c')), .un] := by
  have md : ∀ i, gMod (.int i) (.int m) = some (.int (i % m)) := fun i => mod_ok hm
  have dv : ∀ i, gDiv (.int i) (.int m) = some (.int (i / m)) := fun i => div_ok ⟨hm, by omega⟩
  have m1 : ∀ i, gMod (.int i) (.int 2147483563) = some (.int (i % 2147483563)) := fun i => mod_ok (by decide)
  have m2 : ∀ i, gMod (.int i) (.int 2147483629) = some (.int (i % 2147483629)) := fun i => mod_ok (by decide)
  have d1 : ∀ i, gDiv (.int i) (.int 8191) = some (.int (i / 8191)) := fun i => div_ok ⟨by decide, by decide⟩
  have i0 := ix3 0 (.inl rfl)
  have i1 := ix3 1 (.inr (.inl rfl))
  have i2 := ix3 2 (.inr (.inr rfl))
  have t0 : (0 : Int).toNat = 0 := rfl
  have t1 : (1 : Int).toNat = 1 := rfl
  have t2 : (2 : Int).toNat = 2 := rfl
  have q90007 : ((-18446744073709551616 : Int) < 90007 ∧ (90007 : Int) < 18446744073709551616) = True := eq_true ⟨by decide, by decide⟩
  have q58217 : ((-18446744073709551616 : Int) < 58217 ∧ (58217 : Int) < 18446744073709551616) = True := eq_true ⟨by decide, by decide⟩
  have q40289 : ((-18446744073709551616 : Int) < 40289 ∧ (40289 : Int) < 18446744073709551616) = True := eq_true ⟨by decide, by decide⟩
  have q2147483647 : ((-18446744073709551616 : Int) < 2147483647 ∧ (2147483647 : Int) < 18446744073709551616) = True := eq_true ⟨by decide, by decide⟩
  unfold G_law_take B_law_take
  cases ha : decide (0 < a) with
  | true =>
    refine ⟨a % m, a / m, b, c, ⟨Int.emod_nonneg _ (by omega), Int.emod_lt_of_pos _ hm⟩, ?_⟩
    simp only [gGt, ha, md, dv, sSub, i0, i1, i2, t0, t1, t2, PL.eVar, PL.eC, PL.eUn, PL.eBin, PL.eBinR, PL.eB, PL.eRs, PL.eTup, PL.eLst, PL.eSeq, PL.eIx, PL.eIxD, PL.orE, PL.orS, PL.eAnd, PL.eOr, PL.eNot, PL.eIf, PL.eIsi, PL.eCall, PL.eCallK, PL.eCallR, PL.Res.bind, PL.peek, PL.peeks, PL.pars, PL.par, PL.lent, PL.nodupB, PL.back, PL.frz, PL.coD, PL.asgn, PL.canSet, PL.tVal, PL.tCmp, PL.tBl, PL.tNot1, PL.tAnd2, PL.tOr2, PL.tru, PL.tyD, PL.subT, PL.gIx, PL.itD, PL.lstD, PL.gPlus, PL.gTimes, PL.gCatT, PL.gCatL, PL.gI, PL.gAdd, PL.gSub, PL.gMul, PL.bLen, PL.bTup, PL.bList, PL.bInt, PL.bAbs, PL.bMax2, PL.sNx, PL.sSeq, PL.sIf, PL.sRet, PL.sRetN, PL.sExp, PL.sSet, PL.sPar, PL.sUnp, PL.unsls, PL.unsl, PL.asgns, PL.runF, PL.retV, PL.parsOut, PL.okPar, PL.pick, PL.gN, PL.gsN, PL.gsC, PL.gT, PL.tYesP, PL.wipeE, PL.restE, PL.zipE, PL.lockE, PL.unlk, PL.lkS, PL.unS, PL.ownOk, PL.muB, PL.sFor, PL.eLc, PL.itOf, PL.itRv, PL.itLk, PL.itEnum, PL.mapE, PL.lstAt, PL.eApp, PL.gel0, PL.gelS, List.getElem?_nil, List.set_cons_zero, List.set_cons_succ, List.length_cons, List.length_nil, List.replicate, List.append_nil, List.nil_append, List.cons_append, List.all_cons, List.all_nil, List.any_cons, List.any_nil, List.contains_cons, List.contains_nil, List.map_cons, List.map_nil, List.filterMap_cons, List.filterMap_nil, Option.bind_some, Option.bind_none, Option.map_some, Option.map_none, Option.getD_some, Option.getD_none, Option.orElse_some, Option.orElse_none, Bool.true_and, Bool.and_true, Bool.false_and, Bool.and_false, Bool.not_true, Bool.not_false, Bool.or_false, Bool.false_or, Bool.true_or, Bool.or_true, PL.if_ff, PL.if_tt, if_true, if_false, Bool.false_eq_true, Nat.reduceAdd, Nat.reduceSub, Nat.reduceEqDiff, Nat.reduceBEq, beq_self_eq_true, Nat.zero_add, Nat.add_zero, BEq.rfl, reduceCtorEq, PL.atI_zero, PL.atI_one, PL.atI_two, decide_true, decide_false, List.reverse_cons, List.reverse_nil]
  | false =>
    refine ⟨(((b + 90007 * (c + 1)) * 58217 + 43) % 2147483563 * 2147483647 + ((((b + 90007 * (c + 1)) * 58217 + 43) % 2147483563 * 40289 + 27367) % 2147483629 + 1)) / 8191 % m, a, (((b + 90007 * (c + 1)) * 58217 + 43) % 2147483563 * 40289 + 27367) % 2147483629 + 1, c + 1, ⟨Int.emod_nonneg _ (by omega), Int.emod_lt_of_pos _ hm⟩, ?_⟩
    simp only [gGt, ha, md, dv, m1, m2, d1, q90007, q58217, q40289, q2147483647, true_or, or_true, sSub, i0, i1, i2, t0, t1, t2, PL.eVar, PL.eC, PL.eUn, PL.eBin, PL.eBinR, PL.eB, PL.eRs, PL.eTup, PL.eLst, PL.eSeq, PL.eIx, PL.eIxD, PL.orE, PL.orS, PL.eAnd, PL.eOr, PL.eNot, PL.eIf, PL.eIsi, PL.eCall, PL.eCallK, PL.eCallR, PL.Res.bind, PL.peek, PL.peeks, PL.pars, PL.par, PL.lent, PL.nodupB, PL.back, PL.frz, PL.coD, PL.asgn, PL.canSet, PL.tVal, PL.tCmp, PL.tBl, PL.tNot1, PL.tAnd2, PL.tOr2, PL.tru, PL.tyD, PL.subT, PL.gIx, PL.itD, PL.lstD, PL.gPlus, PL.gTimes, PL.gCatT, PL.gCatL, PL.gI, PL.gAdd, PL.gSub, PL.gMul, PL.bLen, PL.bTup, PL.bList, PL.bInt, PL.bAbs, PL.bMax2, PL.sNx, PL.sSeq, PL.sIf, PL.sRet, PL.sRetN, PL.sExp, PL.sSet, PL.sPar, PL.sUnp, PL.unsls, PL.unsl, PL.asgns, PL.runF, PL.retV, PL.parsOut, PL.okPar, PL.pick, PL.gN, PL.gsN, PL.gsC, PL.gT, PL.tYesP, PL.wipeE, PL.restE, PL.zipE, PL.lockE, PL.unlk, PL.lkS, PL.unS, PL.ownOk, PL.muB, PL.sFor, PL.eLc, PL.itOf, PL.itRv, PL.itLk, PL.itEnum, PL.mapE, PL.lstAt, PL.eApp, PL.gel0, PL.gelS, List.getElem?_nil, List.set_cons_zero, List.set_cons_succ, List.length_cons, List.length_nil, List.replicate, List.append_nil, List.nil_append, List.cons_append, List.all_cons, List.all_nil, List.any_cons, List.any_nil, List.contains_cons, List.contains_nil, List.map_cons, List.map_nil, List.filterMap_cons, List.filterMap_nil, Option.bind_some, Option.bind_none, Option.map_some, Option.map_none, Option.getD_some, Option.getD_none, Option.orElse_some, Option.orElse_none, Bool.true_and, Bool.and_true, Bool.false_and, Bool.and_false, Bool.not_true, Bool.not_false, Bool.or_false, Bool.false_or, Bool.true_or, Bool.or_true, PL.if_ff, PL.if_tt, if_true, if_false, Bool.false_eq_true, Nat.reduceAdd, Nat.reduceSub, Nat.reduceEqDiff, Nat.reduceBEq, beq_self_eq_true, Nat.zero_add, Nat.add_zero, BEq.rfl, reduceCtorEq, PL.atI_zero, PL.atI_one, PL.atI_two, decide_true, decide_false, List.reverse_cons, List.reverse_nil]
/-- one of some -/
theorem pick_ok (a b c : Int) {ds : List D} (w : Bool) (h0 : 0 < ds.length) (hz : ds.length < 100000) : ∃ d, d ∈ ds ∧ ∃ a' b' c' : Int, G_law_pick [.mu false false (.lst (boxD a b c)), .mu w false (.lst ds)] = .ok (.d d) [.mu false false (.lst (boxD a' b' c')), if w then .un else .mu false false (.lst ds)] := by
  obtain ⟨x, a', b', c', ⟨h1, h2⟩, e⟩ := take_ok a b c (m := ((ds.length : Nat) : Int)) (by omega) (by omega)
  have hx : x.toNat < ds.length := by omega
  have at' : atI ds x = some ds[x.toNat] := by
    have := PL.atI_nat (l := ds) (k := x.toNat) hx
    have ex : ((x.toNat : Nat) : Int) = x := by omega
    rw [ex] at this
    exact this
  refine ⟨_, List.getElem_mem hx, a', b', c', ?_⟩
  unfold G_law_pick B_law_pick
  cases w <;> simp only [e, at', PL.eVar, PL.eC, PL.eUn, PL.eBin, PL.eBinR, PL.eB, PL.eRs, PL.eTup, PL.eLst, PL.eSeq, PL.eIx, PL.eIxD, PL.orE, PL.orS, PL.eAnd, PL.eOr, PL.eNot, PL.eIf, PL.eIsi, PL.eCall, PL.eCallK, PL.eCallR, PL.Res.bind, PL.peek, PL.peeks, PL.pars, PL.par, PL.lent, PL.nodupB, PL.back, PL.frz, PL.coD, PL.asgn, PL.canSet, PL.tVal, PL.tCmp, PL.tBl, PL.tNot1, PL.tAnd2, PL.tOr2, PL.tru, PL.tyD, PL.subT, PL.gIx, PL.itD, PL.lstD, PL.gPlus, PL.gTimes, PL.gCatT, PL.gCatL, PL.gI, PL.gAdd, PL.gSub, PL.gMul, PL.bLen, PL.bTup, PL.bList, PL.bInt, PL.bAbs, PL.bMax2, PL.sNx, PL.sSeq, PL.sIf, PL.sRet, PL.sRetN, PL.sExp, PL.sSet, PL.sPar, PL.sUnp, PL.unsls, PL.unsl, PL.asgns, PL.runF, PL.retV, PL.parsOut, PL.okPar, PL.pick, PL.gN, PL.gsN, PL.gsC, PL.gT, PL.tYesP, PL.wipeE, PL.restE, PL.zipE, PL.lockE, PL.unlk, PL.lkS, PL.unS, PL.ownOk, PL.muB, PL.sFor, PL.eLc, PL.itOf, PL.itRv, PL.itLk, PL.itEnum, PL.mapE, PL.lstAt, PL.eApp, PL.gel0, PL.gelS, List.getElem?_nil, List.set_cons_zero, List.set_cons_succ, List.length_cons, List.length_nil, List.replicate, List.append_nil, List.nil_append, List.cons_append, List.all_cons, List.all_nil, List.any_cons, List.any_nil, List.contains_cons, List.contains_nil, List.map_cons, List.map_nil, List.filterMap_cons, List.filterMap_nil, Option.bind_some, Option.bind_none, Option.map_some, Option.map_none, Option.getD_some, Option.getD_none, Option.orElse_some, Option.orElse_none, Bool.true_and, Bool.and_true, Bool.false_and, Bool.and_false, Bool.not_true, Bool.not_false, Bool.or_false, Bool.false_or, Bool.true_or, Bool.or_true, PL.if_ff, PL.if_tt, if_true, if_false, Bool.false_eq_true, Nat.reduceAdd, Nat.reduceSub, Nat.reduceEqDiff, Nat.reduceBEq, beq_self_eq_true, Nat.zero_add, Nat.add_zero, BEq.rfl, reduceCtorEq, PL.atI_zero, PL.atI_one, PL.atI_two, decide_true, decide_false, List.reverse_cons, List.reverse_nil]
theorem bx_pow : gPow (.int 10) (.int 18) = some (.int 1000000000000000000) := by
  unfold gPow gI
  dsimp only
  rw [if_pos ⟨by decide, by decide, by decide⟩]
  rfl
noncomputable def bxR : PL.Env → SRes := (sRet (eLst [(orE (eIx (eLst [(eC (.int 0)), (eVar 2)]) (eB bInt [(eBin gGe (eVar 2) (eBin gPow (eC (.int 10)) (eC (.int 18))))])) (eIxD (eLst [(eC (.int 0)), (eVar 2)]) (eB bInt [(eBin gGe (eVar 2) (eBin gPow (eC (.int 10)) (eC (.int 18))))]))), (eBinR gPlus (eBin gMod (eB bInt [(eBinR gPlus (eBinR gTimes (eBin gMod (eB bInt [(eVar 2)]) (eC (.int 2147483629))) (eC (.int 38377))) (eBinR gTimes (eC (.int 71129)) (eVar 1)))]) (eC (.int 2147483629))) (eC (.int 1))), (eC (.int 0))]))
theorem bxR_ok (V : D) (x : Int) : ∃ a b, bxR [.sh V, .sh (.int 0), .sh (.int x)] = .rt (.fr (.lst (boxD a b 0))) [.sh V, .sh (.int 0), .sh (.int x)] := by
  have m2 : ∀ i, gMod (.int i) (.int 2147483629) = some (.int (i % 2147483629)) := fun i => mod_ok (by decide)
  have q1 : ((-18446744073709551616 : Int) < 38377 ∧ (38377 : Int) < 18446744073709551616) = True := eq_true ⟨by decide, by decide⟩
  have q2 : ((-18446744073709551616 : Int) < 71129 ∧ (71129 : Int) < 18446744073709551616) = True := eq_true ⟨by decide, by decide⟩
  unfold bxR
  cases h : decide ((1000000000000000000 : Int) ≤ x) with
  | true => exact ⟨x, (x % 2147483629 * 38377 + 71129 * 0) % 2147483629 + 1, by simp only [bx_pow, m2, q1, q2, gGe, h, true_or, or_true, PL.eVar, PL.eC, PL.eUn, PL.eBin, PL.eBinR, PL.eB, PL.eRs, PL.eTup, PL.eLst, PL.eSeq, PL.eIx, PL.eIxD, PL.orE, PL.orS, PL.eAnd, PL.eOr, PL.eNot, PL.eIf, PL.eIsi, PL.eCall, PL.eCallK, PL.eCallR, PL.Res.bind, PL.peek, PL.peeks, PL.pars, PL.par, PL.lent, PL.nodupB, PL.back, PL.frz, PL.coD, PL.asgn, PL.canSet, PL.tVal, PL.tCmp, PL.tBl, PL.tNot1, PL.tAnd2, PL.tOr2, PL.tru, PL.tyD, PL.subT, PL.gIx, PL.itD, PL.lstD, PL.gPlus, PL.gTimes, PL.gCatT, PL.gCatL, PL.gI, PL.gAdd, PL.gSub, PL.gMul, PL.bLen, PL.bTup, PL.bList, PL.bInt, PL.bAbs, PL.bMax2, PL.sNx, PL.sSeq, PL.sIf, PL.sRet, PL.sRetN, PL.sExp, PL.sSet, PL.sPar, PL.sUnp, PL.unsls, PL.unsl, PL.asgns, PL.runF, PL.retV, PL.parsOut, PL.okPar, PL.pick, PL.gN, PL.gsN, PL.gsC, PL.gT, PL.tYesP, PL.wipeE, PL.restE, PL.zipE, PL.lockE, PL.unlk, PL.lkS, PL.unS, PL.ownOk, PL.muB, PL.sFor, PL.eLc, PL.itOf, PL.itRv, PL.itLk, PL.itEnum, PL.mapE, PL.lstAt, PL.eApp, PL.gel0, PL.gelS, List.getElem?_nil, List.set_cons_zero, List.set_cons_succ, List.length_cons, List.length_nil, List.replicate, List.append_nil, List.nil_append, List.cons_append, List.all_cons, List.all_nil, List.any_cons, List.any_nil, List.contains_cons, List.contains_nil, List.map_cons, List.map_nil, List.filterMap_cons, List.filterMap_nil, Option.bind_some, Option.bind_none, Option.map_some, Option.map_none, Option.getD_some, Option.getD_none, Option.orElse_some, Option.orElse_none, Bool.true_and, Bool.and_true, Bool.false_and, Bool.and_false, Bool.not_true, Bool.not_false, Bool.or_false, Bool.false_or, Bool.true_or, Bool.or_true, PL.if_ff, PL.if_tt, if_true, if_false, Bool.false_eq_true, Nat.reduceAdd, Nat.reduceSub, Nat.reduceEqDiff, Nat.reduceBEq, beq_self_eq_true, Nat.zero_add, Nat.add_zero, BEq.rfl, reduceCtorEq, PL.atI_zero, PL.atI_one, PL.atI_two, decide_true, decide_false, List.reverse_cons, List.reverse_nil]⟩
  | false => exact ⟨0, (x % 2147483629 * 38377 + 71129 * 0) % 2147483629 + 1, by simp only [bx_pow, m2, q1, q2, gGe, h, true_or, or_true, PL.eVar, PL.eC, PL.eUn, PL.eBin, PL.eBinR, PL.eB, PL.eRs, PL.eTup, PL.eLst, PL.eSeq, PL.eIx, PL.eIxD, PL.orE, PL.orS, PL.eAnd, PL.eOr, PL.eNot, PL.eIf, PL.eIsi, PL.eCall, PL.eCallK, PL.eCallR, PL.Res.bind, PL.peek, PL.peeks, PL.pars, PL.par, PL.lent, PL.nodupB, PL.back, PL.frz, PL.coD, PL.asgn, PL.canSet, PL.tVal, PL.tCmp, PL.tBl, PL.tNot1, PL.tAnd2, PL.tOr2, PL.tru, PL.tyD, PL.subT, PL.gIx, PL.itD, PL.lstD, PL.gPlus, PL.gTimes, PL.gCatT, PL.gCatL, PL.gI, PL.gAdd, PL.gSub, PL.gMul, PL.bLen, PL.bTup, PL.bList, PL.bInt, PL.bAbs, PL.bMax2, PL.sNx, PL.sSeq, PL.sIf, PL.sRet, PL.sRetN, PL.sExp, PL.sSet, PL.sPar, PL.sUnp, PL.unsls, PL.unsl, PL.asgns, PL.runF, PL.retV, PL.parsOut, PL.okPar, PL.pick, PL.gN, PL.gsN, PL.gsC, PL.gT, PL.tYesP, PL.wipeE, PL.restE, PL.zipE, PL.lockE, PL.unlk, PL.lkS, PL.unS, PL.ownOk, PL.muB, PL.sFor, PL.eLc, PL.itOf, PL.itRv, PL.itLk, PL.itEnum, PL.mapE, PL.lstAt, PL.eApp, PL.gel0, PL.gelS, List.getElem?_nil, List.set_cons_zero, List.set_cons_succ, List.length_cons, List.length_nil, List.replicate, List.append_nil, List.nil_append, List.cons_append, List.all_cons, List.all_nil, List.any_cons, List.any_nil, List.contains_cons, List.contains_nil, List.map_cons, List.map_nil, List.filterMap_cons, List.filterMap_nil, Option.bind_some, Option.bind_none, Option.map_some, Option.map_none, Option.getD_some, Option.getD_none, Option.orElse_some, Option.orElse_none, Bool.true_and, Bool.and_true, Bool.false_and, Bool.and_false, Bool.not_true, Bool.not_false, Bool.or_false, Bool.false_or, Bool.true_or, Bool.or_true, PL.if_ff, PL.if_tt, if_true, if_false, Bool.false_eq_true, Nat.reduceAdd, Nat.reduceSub, Nat.reduceEqDiff, Nat.reduceBEq, beq_self_eq_true, Nat.zero_add, Nat.add_zero, BEq.rfl, reduceCtorEq, PL.atI_zero, PL.atI_one, PL.atI_two, decide_true, decide_false, List.reverse_cons, List.reverse_nil]⟩
noncomputable def bxI : PL.Env → SRes := (sIf (tCmp gLt (eVar 1) (eB bLen [(eVar 0)])) (sSet 2 (eB bAbs [(orE (eIx (eVar 0) (eVar 1)) (eIxD (eVar 0) (eVar 1)))])) (sIf (tCmp gGt (eB bLen [(eVar 0)]) (eC (.int 0))) (sSet 2 (eBinR gPlus (eVar 2) (eBinR gTimes (eBin gMod (eB bInt [(eB bAbs [(orE (eIx (eVar 0) (eBin gMod (eB bInt [(eVar 1)]) (eB bLen [(eVar 0)]))) (eIxD (eVar 0) (eBin gMod (eB bInt [(eVar 1)]) (eB bLen [(eVar 0)]))))])]) (eC (.int 2147483629))) (eC (.int 60013))))) sNx))
noncomputable def bxS : PL.Env → SRes := (sSet 2 (eBinR gPlus (eBinR gTimes (eC (.int 2311)) (eVar 1)) (eC (.int 97))))
theorem B_bx : B_law_box = sSeq bxS (sSeq bxI bxR) := rfl
theorem bxS_ok (V : D) : bxS [.sh V, .sh (.int 0), .un] = .nx [.sh V, .sh (.int 0), .sh (.int 97)] := by
  have q1 : ((-18446744073709551616 : Int) < 2311 ∧ (2311 : Int) < 18446744073709551616) = True := eq_true ⟨by decide, by decide⟩
  have e : (2311 : Int) * 0 + 97 = 97 := by decide
  unfold bxS
  simp only [q1, true_or, e, PL.eVar, PL.eC, PL.eUn, PL.eBin, PL.eBinR, PL.eB, PL.eRs, PL.eTup, PL.eLst, PL.eSeq, PL.eIx, PL.eIxD, PL.orE, PL.orS, PL.eAnd, PL.eOr, PL.eNot, PL.eIf, PL.eIsi, PL.eCall, PL.eCallK, PL.eCallR, PL.Res.bind, PL.peek, PL.peeks, PL.pars, PL.par, PL.lent, PL.nodupB, PL.back, PL.frz, PL.coD, PL.asgn, PL.canSet, PL.tVal, PL.tCmp, PL.tBl, PL.tNot1, PL.tAnd2, PL.tOr2, PL.tru, PL.tyD, PL.subT, PL.gIx, PL.itD, PL.lstD, PL.gPlus, PL.gTimes, PL.gCatT, PL.gCatL, PL.gI, PL.gAdd, PL.gSub, PL.gMul, PL.bLen, PL.bTup, PL.bList, PL.bInt, PL.bAbs, PL.bMax2, PL.sNx, PL.sSeq, PL.sIf, PL.sRet, PL.sRetN, PL.sExp, PL.sSet, PL.sPar, PL.sUnp, PL.unsls, PL.unsl, PL.asgns, PL.runF, PL.retV, PL.parsOut, PL.okPar, PL.pick, PL.gN, PL.gsN, PL.gsC, PL.gT, PL.tYesP, PL.wipeE, PL.restE, PL.zipE, PL.lockE, PL.unlk, PL.lkS, PL.unS, PL.ownOk, PL.muB, PL.sFor, PL.eLc, PL.itOf, PL.itRv, PL.itLk, PL.itEnum, PL.mapE, PL.lstAt, PL.eApp, PL.gel0, PL.gelS, List.getElem?_nil, List.set_cons_zero, List.set_cons_succ, List.length_cons, List.length_nil, List.replicate, List.append_nil, List.nil_append, List.cons_append, List.all_cons, List.all_nil, List.any_cons, List.any_nil, List.contains_cons, List.contains_nil, List.map_cons, List.map_nil, List.filterMap_cons, List.filterMap_nil, Option.bind_some, Option.bind_none, Option.map_some, Option.map_none, Option.getD_some, Option.getD_none, Option.orElse_some, Option.orElse_none, Bool.true_and, Bool.and_true, Bool.false_and, Bool.and_false, Bool.not_true, Bool.not_false, Bool.or_false, Bool.false_or, Bool.true_or, Bool.or_true, PL.if_ff, PL.if_tt, if_true, if_false, Bool.false_eq_true, Nat.reduceAdd, Nat.reduceSub, Nat.reduceEqDiff, Nat.reduceBEq, beq_self_eq_true, Nat.zero_add, Nat.add_zero, BEq.rfl, reduceCtorEq, PL.atI_zero, PL.atI_one, PL.atI_two, decide_true, decide_false, List.reverse_cons, List.reverse_nil]
/-- the script as data -/
theorem bxI_ok (ns : List Int) : ∃ x : Int, bxI [.sh (.dict [(.bool true, .list (ns.map .int))]), .sh (.int 0), .sh (.int 97)] = .nx [.sh (.dict [(.bool true, .list (ns.map .int))]), .sh (.int 0), .sh (.int x)] := by
  unfold bxI
  cases ns with
  | nil =>
    have h1 : decide ((0 : Int) < ((0 : Nat) : Int)) = false := rfl
    exact ⟨97, by simp only [gLt, gGt, h1, PL.eVar, PL.eC, PL.eUn, PL.eBin, PL.eBinR, PL.eB, PL.eRs, PL.eTup, PL.eLst, PL.eSeq, PL.eIx, PL.eIxD, PL.orE, PL.orS, PL.eAnd, PL.eOr, PL.eNot, PL.eIf, PL.eIsi, PL.eCall, PL.eCallK, PL.eCallR, PL.Res.bind, PL.peek, PL.peeks, PL.pars, PL.par, PL.lent, PL.nodupB, PL.back, PL.frz, PL.coD, PL.asgn, PL.canSet, PL.tVal, PL.tCmp, PL.tBl, PL.tNot1, PL.tAnd2, PL.tOr2, PL.tru, PL.tyD, PL.subT, PL.gIx, PL.itD, PL.lstD, PL.gPlus, PL.gTimes, PL.gCatT, PL.gCatL, PL.gI, PL.gAdd, PL.gSub, PL.gMul, PL.bLen, PL.bTup, PL.bList, PL.bInt, PL.bAbs, PL.bMax2, PL.sNx, PL.sSeq, PL.sIf, PL.sRet, PL.sRetN, PL.sExp, PL.sSet, PL.sPar, PL.sUnp, PL.unsls, PL.unsl, PL.asgns, PL.runF, PL.retV, PL.parsOut, PL.okPar, PL.pick, PL.gN, PL.gsN, PL.gsC, PL.gT, PL.tYesP, PL.wipeE, PL.restE, PL.zipE, PL.lockE, PL.unlk, PL.lkS, PL.unS, PL.ownOk, PL.muB, PL.sFor, PL.eLc, PL.itOf, PL.itRv, PL.itLk, PL.itEnum, PL.mapE, PL.lstAt, PL.eApp, PL.gel0, PL.gelS, List.getElem?_nil, List.set_cons_zero, List.set_cons_succ, List.length_cons, List.length_nil, List.replicate, List.append_nil, List.nil_append, List.cons_append, List.all_cons, List.all_nil, List.any_cons, List.any_nil, List.contains_cons, List.contains_nil, List.map_cons, List.map_nil, List.filterMap_cons, List.filterMap_nil, Option.bind_some, Option.bind_none, Option.map_some, Option.map_none, Option.getD_some, Option.getD_none, Option.orElse_some, Option.orElse_none, Bool.true_and, Bool.and_true, Bool.false_and, Bool.and_false, Bool.not_true, Bool.not_false, Bool.or_false, Bool.false_or, Bool.true_or, Bool.or_true, PL.if_ff, PL.if_tt, if_true, if_false, Bool.false_eq_true, Nat.reduceAdd, Nat.reduceSub, Nat.reduceEqDiff, Nat.reduceBEq, beq_self_eq_true, Nat.zero_add, Nat.add_zero, BEq.rfl, reduceCtorEq, PL.atI_zero, PL.atI_one, PL.atI_two, decide_true, decide_false, List.reverse_cons, List.reverse_nil]⟩
  | cons n ns =>
    have h1 : decide ((0 : Int) < (((ns.map PyData.int).length + 1 : Nat) : Int)) = true := decide_eq_true (by omega)
    exact ⟨if n < 0 then -n else n, by simp only [gLt, h1, PL.eVar, PL.eC, PL.eUn, PL.eBin, PL.eBinR, PL.eB, PL.eRs, PL.eTup, PL.eLst, PL.eSeq, PL.eIx, PL.eIxD, PL.orE, PL.orS, PL.eAnd, PL.eOr, PL.eNot, PL.eIf, PL.eIsi, PL.eCall, PL.eCallK, PL.eCallR, PL.Res.bind, PL.peek, PL.peeks, PL.pars, PL.par, PL.lent, PL.nodupB, PL.back, PL.frz, PL.coD, PL.asgn, PL.canSet, PL.tVal, PL.tCmp, PL.tBl, PL.tNot1, PL.tAnd2, PL.tOr2, PL.tru, PL.tyD, PL.subT, PL.gIx, PL.itD, PL.lstD, PL.gPlus, PL.gTimes, PL.gCatT, PL.gCatL, PL.gI, PL.gAdd, PL.gSub, PL.gMul, PL.bLen, PL.bTup, PL.bList, PL.bInt, PL.bAbs, PL.bMax2, PL.sNx, PL.sSeq, PL.sIf, PL.sRet, PL.sRetN, PL.sExp, PL.sSet, PL.sPar, PL.sUnp, PL.unsls, PL.unsl, PL.asgns, PL.runF, PL.retV, PL.parsOut, PL.okPar, PL.pick, PL.gN, PL.gsN, PL.gsC, PL.gT, PL.tYesP, PL.wipeE, PL.restE, PL.zipE, PL.lockE, PL.unlk, PL.lkS, PL.unS, PL.ownOk, PL.muB, PL.sFor, PL.eLc, PL.itOf, PL.itRv, PL.itLk, PL.itEnum, PL.mapE, PL.lstAt, PL.eApp, PL.gel0, PL.gelS, List.getElem?_nil, List.set_cons_zero, List.set_cons_succ, List.length_cons, List.length_nil, List.replicate, List.append_nil, List.nil_append, List.cons_append, List.all_cons, List.all_nil, List.any_cons, List.any_nil, List.contains_cons, List.contains_nil, List.map_cons, List.map_nil, List.filterMap_cons, List.filterMap_nil, Option.bind_some, Option.bind_none, Option.map_some, Option.map_none, Option.getD_some, Option.getD_none, Option.orElse_some, Option.orElse_none, Bool.true_and, Bool.and_true, Bool.false_and, Bool.and_false, Bool.not_true, Bool.not_false, Bool.or_false, Bool.false_or, Bool.true_or, Bool.or_true, PL.if_ff, PL.if_tt, if_true, if_false, Bool.false_eq_true, Nat.reduceAdd, Nat.reduceSub, Nat.reduceEqDiff, Nat.reduceBEq, beq_self_eq_true, Nat.zero_add, Nat.add_zero, BEq.rfl, reduceCtorEq, PL.atI_zero, PL.atI_one, PL.atI_two, decide_true, decide_false, List.reverse_cons, List.reverse_nil]⟩
theorem box_ok (ns : List Int) : ∃ a b : Int, G_law_box [.sh (.dict [(.bool true, .list (ns.map .int))]), .sh (.int 0)] = .ok (.fr (.lst (boxD a b 0))) [.un, .un] := by
  obtain ⟨x, h1⟩ := bxI_ok ns
  obtain ⟨a, b, h2⟩ := bxR_ok (.dict [(.bool true, .list (ns.map .int))]) x
  refine ⟨a, b, ?_⟩
  have h0 := bxS_ok (.dict [(.bool true, .list (ns.map .int))])
  unfold G_law_box
  rw [B_bx]
  simp only [h0, h1, h2, PL.eVar, PL.eC, PL.eUn, PL.eBin, PL.eBinR, PL.eB, PL.eRs, PL.eTup, PL.eLst, PL.eSeq, PL.eIx, PL.eIxD, PL.orE, PL.orS, PL.eAnd, PL.eOr, PL.eNot, PL.eIf, PL.eIsi, PL.eCall, PL.eCallK, PL.eCallR, PL.Res.bind, PL.peek, PL.peeks, PL.pars, PL.par, PL.lent, PL.nodupB, PL.back, PL.frz, PL.coD, PL.asgn, PL.canSet, PL.tVal, PL.tCmp, PL.tBl, PL.tNot1, PL.tAnd2, PL.tOr2, PL.tru, PL.tyD, PL.subT, PL.gIx, PL.itD, PL.lstD, PL.gPlus, PL.gTimes, PL.gCatT, PL.gCatL, PL.gI, PL.gAdd, PL.gSub, PL.gMul, PL.bLen, PL.bTup, PL.bList, PL.bInt, PL.bAbs, PL.bMax2, PL.sNx, PL.sSeq, PL.sIf, PL.sRet, PL.sRetN, PL.sExp, PL.sSet, PL.sPar, PL.sUnp, PL.unsls, PL.unsl, PL.asgns, PL.runF, PL.retV, PL.parsOut, PL.okPar, PL.pick, PL.gN, PL.gsN, PL.gsC, PL.gT, PL.tYesP, PL.wipeE, PL.restE, PL.zipE, PL.lockE, PL.unlk, PL.lkS, PL.unS, PL.ownOk, PL.muB, PL.sFor, PL.eLc, PL.itOf, PL.itRv, PL.itLk, PL.itEnum, PL.mapE, PL.lstAt, PL.eApp, PL.gel0, PL.gelS, List.getElem?_nil, List.set_cons_zero, List.set_cons_succ, List.length_cons, List.length_nil, List.replicate, List.append_nil, List.nil_append, List.cons_append, List.all_cons, List.all_nil, List.any_cons, List.any_nil, List.contains_cons, List.contains_nil, List.map_cons, List.map_nil, List.filterMap_cons, List.filterMap_nil, Option.bind_some, Option.bind_none, Option.map_some, Option.map_none, Option.getD_some, Option.getD_none, Option.orElse_some, Option.orElse_none, Bool.true_and, Bool.and_true, Bool.false_and, Bool.and_false, Bool.not_true, Bool.not_false, Bool.or_false, Bool.false_or, Bool.true_or, Bool.or_true, PL.if_ff, PL.if_tt, if_true, if_false, Bool.false_eq_true, Nat.reduceAdd, Nat.reduceSub, Nat.reduceEqDiff, Nat.reduceBEq, beq_self_eq_true, Nat.zero_add, Nat.add_zero, BEq.rfl, reduceCtorEq, PL.atI_zero, PL.atI_one, PL.atI_two, decide_true, decide_false, List.reverse_cons, List.reverse_nil]
end K00

set_option Elab.async false
set_option linter.all false
set_option maxRecDepth 100000
set_option maxHeartbeats 8000000
namespace K00
open PySem PySem.Spec PyProof.Rows L2 PL PXE
theorem caught_ok (d : D) : ∀ n : Nat, n < 21 → G_law_caught [.sh (.int (n : Int)), .sh d] = .ok (.d (.tuple [.int (n : Int), d])) [.un, .un]
  | 0, _ => rfl | 1, _ => rfl | 2, _ => rfl | 3, _ => rfl | 4, _ => rfl | 5, _ => rfl | 6, _ => rfl | 7, _ => rfl | 8, _ => rfl | 9, _ => rfl | 10, _ => rfl | 11, _ => rfl | 12, _ => rfl | 13, _ => rfl | 14, _ => rfl | 15, _ => rfl | 16, _ => rfl | 17, _ => rfl | 18, _ => rfl | 19, _ => rfl | 20, _ => rfl
  | n + 21, h => absurd h (by omega)
theorem base_ok (d : D) : ∀ n : Nat, n < 21 → G_law_is_base [.sh (.int (n : Int)), .sh d] = .ok (.d (.bool true)) [.un, .un]
  | 0, _ => rfl | 1, _ => rfl | 2, _ => rfl | 3, _ => rfl | 4, _ => rfl | 5, _ => rfl | 6, _ => rfl | 7, _ => rfl | 8, _ => rfl | 9, _ => rfl | 10, _ => rfl | 11, _ => rfl | 12, _ => rfl | 13, _ => rfl | 14, _ => rfl | 15, _ => rfl | 16, _ => rfl | 17, _ => rfl | 18, _ => rfl | 19, _ => rfl | 20, _ => rfl
  | n + 21, h => absurd h (by omega)
abbrev things : List D := [.int 0, .int (-1), .none, .str "words", .tuple [.int 1, .int 2], .list [.int 3], .bool true, .int 7]
theorem same_ok {d : D} (h : d ∈ things) (n : Int) : gNe (.tuple [.int n, d]) (.tuple [.int n, d]) = some (.bool false) := by
  have so : PyData.strOk (Str.ofString "words") = true := by decide +kernel
  simp only [List.mem_cons, List.not_mem_nil, or_false] at h
  rcases h with rfl | rfl | rfl | rfl | rfl | rfl | rfl | rfl <;> simp [gNe, eqOk, PL.lay, PyData.canLay0, PyData.canLayAll0, PyData.depth, PyData.depthAll, PyData.eqv, PyData.eqvAll, so]
noncomputable def lwB : PL.Env → SRes := (sSeq (sSet 3 (eCall G_law_pick [(eVar 1), (eLst [(eC (.int 0)), (eUn gNeg (eC (.int 1))), (eC .none), (eC (.str "words")), (eTup [(eC (.int 1)), (eC (.int 2))]), (eLst [(eC (.int 3))]), (eC (.bool true)), (eC (.int 7))])]))
    (sIf (tOr2 (tCmp gNe (eCall G_law_caught [(eVar 2), (eVar 3)]) (eTup [(eVar 2), (eVar 3)])) (tNot1 (tVal (eCall G_law_is_base [(eVar 2), (eVar 3)])))) (sRet (eC (.bool false))) sNx))
noncomputable def lwR : PL.Env → SRes := (sRet (eBin gEq (eTup [(eMkA (eMk "InvalidText" ["at"] [] [(eUn gNeg (eC (.int 1)))]) "at"), (eMkA (eMk "InvalidSheet" ["at"] [] [(eC (.int 3))]) "at"), (eMkA (eMk "Refused" ["at"] [] [(eC .none)]) "at")]) (eTup [(eUn gNeg (eC (.int 1))), (eC (.int 3)), (eC .none)])))
theorem B_lw : B_law = sSeq (sSet 1 (eCall G_law_box [(eVar 0), (eC (.int 0))])) (sSeq (sFor (itRng1 (eC (.int 21))) (gN 2) lwB) lwR) := rfl
theorem lwR_ok (e : PL.Env) : lwR e = .rt (.d (.bool true)) e := rfl
theorem lw_turn (S : D) (a b c : Int) {n : Nat} (hn : n < 21) {s2 s3 : Sl} (f2 : Fre s2) (f3 : Fre s3) : ∃ (a' b' c' : Int) (d : D), turn (gN 2) lwB (.int (n : Int)) [.sh S, .mu true false (.lst (boxD a b c)), s2, s3] = some [.sh S, .mu true false (.lst (boxD a' b' c')), .sh (.int (n : Int)), .sh d] := by
  obtain ⟨d, hd, a', b', c', e⟩ := pick_ok a b c (ds := things) true (by decide) (by decide)
  rw [if_pos rfl] at e
  have e1 := caught_ok d n hn
  have e2 := base_ok d n hn
  have q := same_ok hd (n : Int)
  have neg : gNeg (.int 1) = some (.int (-1)) := rfl
  refine ⟨a', b', c', d, ?_⟩
  unfold turn lwB
  cases f2 <;> cases f3 <;> simp only [e, e1, e2, q, neg, PL.eVar, PL.eC, PL.eUn, PL.eBin, PL.eBinR, PL.eB, PL.eRs, PL.eTup, PL.eLst, PL.eSeq, PL.eIx, PL.eIxD, PL.orE, PL.orS, PL.eAnd, PL.eOr, PL.eNot, PL.eIf, PL.eIsi, PL.eCall, PL.eCallK, PL.eCallR, PL.Res.bind, PL.peek, PL.peeks, PL.pars, PL.par, PL.lent, PL.nodupB, PL.back, PL.frz, PL.coD, PL.asgn, PL.canSet, PL.tVal, PL.tCmp, PL.tBl, PL.tNot1, PL.tAnd2, PL.tOr2, PL.tru, PL.tyD, PL.subT, PL.gIx, PL.itD, PL.lstD, PL.gPlus, PL.gTimes, PL.gCatT, PL.gCatL, PL.gI, PL.gAdd, PL.gSub, PL.gMul, PL.bLen, PL.bTup, PL.bList, PL.bInt, PL.bAbs, PL.bMax2, PL.sNx, PL.sSeq, PL.sIf, PL.sRet, PL.sRetN, PL.sExp, PL.sSet, PL.sPar, PL.sUnp, PL.unsls, PL.unsl, PL.asgns, PL.runF, PL.retV, PL.parsOut, PL.okPar, PL.pick, PL.gN, PL.gsN, PL.gsC, PL.gT, PL.tYesP, PL.wipeE, PL.restE, PL.zipE, PL.lockE, PL.unlk, PL.lkS, PL.unS, PL.ownOk, PL.muB, PL.sFor, PL.eLc, PL.itOf, PL.itRv, PL.itLk, PL.itEnum, PL.mapE, PL.lstAt, PL.eApp, PL.gel0, PL.gelS, List.getElem?_nil, List.set_cons_zero, List.set_cons_succ, List.length_cons, List.length_nil, List.replicate, List.append_nil, List.nil_append, List.cons_append, List.all_cons, List.all_nil, List.any_cons, List.any_nil, List.contains_cons, List.contains_nil, List.map_cons, List.map_nil, List.filterMap_cons, List.filterMap_nil, Option.bind_some, Option.bind_none, Option.map_some, Option.map_none, Option.getD_some, Option.getD_none, Option.orElse_some, Option.orElse_none, Bool.true_and, Bool.and_true, Bool.false_and, Bool.and_false, Bool.not_true, Bool.not_false, Bool.or_false, Bool.false_or, Bool.true_or, Bool.or_true, PL.if_ff, PL.if_tt, if_true, if_false, Bool.false_eq_true, Nat.reduceAdd, Nat.reduceSub, Nat.reduceEqDiff, Nat.reduceBEq, beq_self_eq_true, Nat.zero_add, Nat.add_zero, BEq.rfl, reduceCtorEq, PL.atI_zero, PL.atI_one, PL.atI_two, decide_true, decide_false, List.reverse_cons, List.reverse_nil]
theorem law_true (ns : List Int) (h : ns.length ≤ 63) : ∃ ps, G_law [.sh (.dict [(.bool true, .list (ns.map .int))])] = .ok (.d (.bool true)) ps := by
  obtain ⟨a, b, e1⟩ := box_ok ns
  generalize PyData.dict [(.bool true, .list (ns.map .int))] = S at *
  have it : itRng1 (eC (.int 21)) [.sh S, .mu true false (.lst (boxD a b 0)), .un, .un] = .ok (PL.upTo 0 21, []) [.sh S, .mu true false (.lst (boxD a b 0)), .un, .un] := rfl
  obtain ⟨e', lp, a', b', c', s2, s3, _, _, rfl⟩ := forL_inv (g := gN 2) (f := lwB) (P := fun e => ∃ (a b c : Int) (s2 s3 : Sl), Fre s2 ∧ Fre s3 ∧ e = [.sh S, .mu true false (.lst (boxD a b c)), s2, s3]) (xs := PL.upTo 0 21) (e := [.sh S, .mu true false (.lst (boxD a b 0)), .un, .un]) ⟨a, b, 0, .un, .un, .un, .un, rfl⟩ (fun x hx e he => by
    obtain ⟨a, b, c, s2, s3, f2, f3, rfl⟩ := he
    unfold PL.upTo at hx
    obtain ⟨n, hn, rfl⟩ := List.mem_map.mp hx
    obtain ⟨a', b', c', d, t⟩ := lw_turn S a b c (List.mem_range.mp hn) f2 f3
    have z : (0 : Int) + (n : Int) = (n : Int) := by omega
    rw [z]
    exact ⟨_, t, a', b', c', _, _, .sh _, .sh _, rfl⟩)
  have f : sFor (itRng1 (eC (.int 21))) (gN 2) lwB [.sh S, .mu true false (.lst (boxD a b 0)), .un, .un] = .nx [.sh S, .mu true false (.lst (boxD a' b' c')), s2, s3] := by
    unfold sFor
    rw [it]
    show mapE (unlk [] _) (forL (gN 2) lwB _ [.sh S, .mu true false (.lst (boxD a b 0)), .un, .un]) = _
    rw [lp]
    rfl
  refine ⟨[.un], ?_⟩
  unfold G_law
  rw [B_lw]
  generalize sFor (itRng1 (eC (.int 21))) (gN 2) lwB = F at *
  simp only [e1, f, lwR_ok, PL.eVar, PL.eC, PL.eUn, PL.eBin, PL.eBinR, PL.eB, PL.eRs, PL.eTup, PL.eLst, PL.eSeq, PL.eIx, PL.eIxD, PL.orE, PL.orS, PL.eAnd, PL.eOr, PL.eNot, PL.eIf, PL.eIsi, PL.eCall, PL.eCallK, PL.eCallR, PL.Res.bind, PL.peek, PL.peeks, PL.pars, PL.par, PL.lent, PL.nodupB, PL.back, PL.frz, PL.coD, PL.asgn, PL.canSet, PL.tVal, PL.tCmp, PL.tBl, PL.tNot1, PL.tAnd2, PL.tOr2, PL.tru, PL.tyD, PL.subT, PL.gIx, PL.itD, PL.lstD, PL.gPlus, PL.gTimes, PL.gCatT, PL.gCatL, PL.gI, PL.gAdd, PL.gSub, PL.gMul, PL.bLen, PL.bTup, PL.bList, PL.bInt, PL.bAbs, PL.bMax2, PL.sNx, PL.sSeq, PL.sIf, PL.sRet, PL.sRetN, PL.sExp, PL.sSet, PL.sPar, PL.sUnp, PL.unsls, PL.unsl, PL.asgns, PL.runF, PL.retV, PL.parsOut, PL.okPar, PL.pick, PL.gN, PL.gsN, PL.gsC, PL.gT, PL.tYesP, PL.wipeE, PL.restE, PL.zipE, PL.lockE, PL.unlk, PL.lkS, PL.unS, PL.ownOk, PL.muB, PL.sFor, PL.eLc, PL.itOf, PL.itRv, PL.itLk, PL.itEnum, PL.mapE, PL.lstAt, PL.eApp, PL.gel0, PL.gelS, List.getElem?_nil, List.set_cons_zero, List.set_cons_succ, List.length_cons, List.length_nil, List.replicate, List.append_nil, List.nil_append, List.cons_append, List.all_cons, List.all_nil, List.any_cons, List.any_nil, List.contains_cons, List.contains_nil, List.map_cons, List.map_nil, List.filterMap_cons, List.filterMap_nil, Option.bind_some, Option.bind_none, Option.map_some, Option.map_none, Option.getD_some, Option.getD_none, Option.orElse_some, Option.orElse_none, Bool.true_and, Bool.and_true, Bool.false_and, Bool.and_false, Bool.not_true, Bool.not_false, Bool.or_false, Bool.false_or, Bool.true_or, Bool.or_true, PL.if_ff, PL.if_tt, if_true, if_false, Bool.false_eq_true, Nat.reduceAdd, Nat.reduceSub, Nat.reduceEqDiff, Nat.reduceBEq, beq_self_eq_true, Nat.zero_add, Nat.add_zero, BEq.rfl, reduceCtorEq, PL.atI_zero, PL.atI_one, PL.atI_two, decide_true, decide_false, List.reverse_cons, List.reverse_nil]
end K00

set_option Elab.async false
set_option linter.all false
set_option maxRecDepth 100000
set_option maxHeartbeats 4000000
namespace K00
open PySem PySem.Spec PyProof.Rows L2 PL PXE
section
variable {P : Program} {w : World} {K : PySem.W.Frag} {h : Heap} {mg : Str → Option Value} {base : Heap}
/-- what the head says -/
structure Fx (K : PySem.W.Frag) (h : Heap) (mg : Str → Option Value) : Prop where
  kin : K.In h
  ns : h.Ns mainGlobals mg
  says : SaysX fa fn FILE xs knownX hclsX subX K
theorem Fx.g_InvalidText (c : Fx K h mg) : mg "InvalidText" = some (.ref (He.ga K "InvalidText")) := He.glo_ok c.kin c.ns (c.says.d.fact 11 (f := .glo "InvalidText") rfl)
theorem Fx.g_InvalidSaying (c : Fx K h mg) : mg "InvalidSaying" = some (.ref (He.ga K "InvalidSaying")) := He.glo_ok c.kin c.ns (c.says.d.fact 12 (f := .glo "InvalidSaying") rfl)
theorem Fx.g_InvalidSheet (c : Fx K h mg) : mg "InvalidSheet" = some (.ref (He.ga K "InvalidSheet")) := He.glo_ok c.kin c.ns (c.says.d.fact 13 (f := .glo "InvalidSheet") rfl)
theorem Fx.g_InvalidFilling (c : Fx K h mg) : mg "InvalidFilling" = some (.ref (He.ga K "InvalidFilling")) := He.glo_ok c.kin c.ns (c.says.d.fact 14 (f := .glo "InvalidFilling") rfl)
theorem Fx.g_InvalidMakers (c : Fx K h mg) : mg "InvalidMakers" = some (.ref (He.ga K "InvalidMakers")) := He.glo_ok c.kin c.ns (c.says.d.fact 15 (f := .glo "InvalidMakers") rfl)
theorem Fx.g_InvalidRules (c : Fx K h mg) : mg "InvalidRules" = some (.ref (He.ga K "InvalidRules")) := He.glo_ok c.kin c.ns (c.says.d.fact 16 (f := .glo "InvalidRules") rfl)
theorem Fx.g_InvalidBook (c : Fx K h mg) : mg "InvalidBook" = some (.ref (He.ga K "InvalidBook")) := He.glo_ok c.kin c.ns (c.says.d.fact 17 (f := .glo "InvalidBook") rfl)
theorem Fx.g_InvalidRow (c : Fx K h mg) : mg "InvalidRow" = some (.ref (He.ga K "InvalidRow")) := He.glo_ok c.kin c.ns (c.says.d.fact 18 (f := .glo "InvalidRow") rfl)
theorem Fx.g_InvalidPremises (c : Fx K h mg) : mg "InvalidPremises" = some (.ref (He.ga K "InvalidPremises")) := He.glo_ok c.kin c.ns (c.says.d.fact 19 (f := .glo "InvalidPremises") rfl)
theorem Fx.g_InvalidProof (c : Fx K h mg) : mg "InvalidProof" = some (.ref (He.ga K "InvalidProof")) := He.glo_ok c.kin c.ns (c.says.d.fact 20 (f := .glo "InvalidProof") rfl)
theorem Fx.g_InvalidFacts (c : Fx K h mg) : mg "InvalidFacts" = some (.ref (He.ga K "InvalidFacts")) := He.glo_ok c.kin c.ns (c.says.d.fact 21 (f := .glo "InvalidFacts") rfl)
theorem Fx.g_InvalidLot (c : Fx K h mg) : mg "InvalidLot" = some (.ref (He.ga K "InvalidLot")) := He.glo_ok c.kin c.ns (c.says.d.fact 22 (f := .glo "InvalidLot") rfl)
theorem Fx.g_InvalidWorld (c : Fx K h mg) : mg "InvalidWorld" = some (.ref (He.ga K "InvalidWorld")) := He.glo_ok c.kin c.ns (c.says.d.fact 23 (f := .glo "InvalidWorld") rfl)
theorem Fx.g_InvalidSigned (c : Fx K h mg) : mg "InvalidSigned" = some (.ref (He.ga K "InvalidSigned")) := He.glo_ok c.kin c.ns (c.says.d.fact 24 (f := .glo "InvalidSigned") rfl)
theorem Fx.g_InvalidIndex (c : Fx K h mg) : mg "InvalidIndex" = some (.ref (He.ga K "InvalidIndex")) := He.glo_ok c.kin c.ns (c.says.d.fact 25 (f := .glo "InvalidIndex") rfl)
theorem Fx.g_Refused (c : Fx K h mg) : mg "Refused" = some (.ref (He.ga K "Refused")) := He.glo_ok c.kin c.ns (c.says.d.fact 26 (f := .glo "Refused") rfl)
theorem Fx.g_InvalidSize (c : Fx K h mg) : mg "InvalidSize" = some (.ref (He.ga K "InvalidSize")) := He.glo_ok c.kin c.ns (c.says.d.fact 27 (f := .glo "InvalidSize") rfl)
theorem Fx.g_NoMaker (c : Fx K h mg) : mg "NoMaker" = some (.ref (He.ga K "NoMaker")) := He.glo_ok c.kin c.ns (c.says.d.fact 28 (f := .glo "NoMaker") rfl)
theorem Fx.g_NoRule (c : Fx K h mg) : mg "NoRule" = some (.ref (He.ga K "NoRule")) := He.glo_ok c.kin c.ns (c.says.d.fact 29 (f := .glo "NoRule") rfl)
theorem Fx.g_NotCalm (c : Fx K h mg) : mg "NotCalm" = some (.ref (He.ga K "NotCalm")) := He.glo_ok c.kin c.ns (c.says.d.fact 30 (f := .glo "NotCalm") rfl)
theorem Fx.g_InvalidCommand (c : Fx K h mg) : mg "InvalidCommand" = some (.ref (He.ga K "InvalidCommand")) := He.glo_ok c.kin c.ns (c.says.d.fact 31 (f := .glo "InvalidCommand") rfl)
theorem Fx.g_SayError (c : Fx K h mg) : mg "SayError" = some (.ref (He.ga K "SayError")) := He.glo_ok c.kin c.ns (c.says.d.fact 32 (f := .glo "SayError") rfl)
theorem Fx.n_super (c : Fx K h mg) : mg "super" = none := He.free_ok c.kin c.ns (c.says.d.fact 33 (f := .free "super") rfl)
theorem Fx.xc (c : Fx K h mg) (x : Str) (hx : x ∈ knownX) : XC K (He.ga K x) := c.says.xc rfl x hx
theorem Fx.a_InvalidText (c : Fx K h mg) : ∃ fd, FunI K FILE x_InvalidText fd := c.says.x 0 (d := x_InvalidText) rfl
theorem Fx.t_InvalidText (c : Fx K h mg) : XC K (He.ga K "InvalidText") := c.a_InvalidText.choose_spec.T
theorem Fx.l_InvalidText_at (c : Fx K h mg) : PySem.W.findIn K (.ref (He.ga K "InvalidText")) "at" = some none := (c.a_InvalidText.choose_spec.fl "at" (by decide)).2
theorem tx_InvalidText : TxD x_InvalidText := ⟨⟨_, _, _, _, _, _, _, _, _, _, _, rfl, (.cons FldSts.nil), rfl, rfl, fun _ _ _ _ => rfl⟩, NdefX.nscope_by (by kernel_rfl), by kernel_rfl, by decide, by decide⟩
theorem Fx.e_InvalidText (c : Fx K h mg) {X : L2.Cx} (hK : X.K = K) (hm : X.mg = mg) (hP : XP X.prog FILE) : ExK X "InvalidText" ["at"] 1 [] := by
  subst hK hm
  obtain ⟨fd, A⟩ := c.a_InvalidText
  obtain ⟨its, _, b⟩ := A.binds (fun us => ⟨us, []⟩) 2 (fun us _ => us) (fun e => by cases e) (fun _ T kV doc pm an cdv ct cc us its l1 l2 => match us, its, l1, l2 with | [_, _], [_], _, _ => ⟨_, rfl, rfl⟩)
  exact ExK.of A tx_InvalidText hP c.n_super c.g_InvalidText rfl (fun s us I hl => by
    rw [List.append_nil] at hl ⊢
    exact b s us I hl)
theorem Fx.s_InvalidText (c : Fx K h mg) {X : L2.Cx} {W : WX} {e : Expr} {fa : PL.Env → PL.Res Rv} {p pos kpos : Pos} (hK : X.K = K) (hm : X.mg = mg) (hP : XP X.prog FILE) (hr : Room 2 X.A) (hg : Gl X "InvalidText") (ha : SE X W e fa)
    (hall : (backToKw pos (keywordEach [⟨some "at", e, kpos⟩] X.env)).all (·.1.isSome) = true := by rfl) (hks : (backToKw pos (keywordEach [⟨some "at", e, kpos⟩] X.env)).filterMap (·.1) = [("at" : Str)] := by rfl)
    (hpl : ((backTo pos (starEach [] X.env)).any (·.1) || (backToKw pos (keywordEach [⟨some "at", e, kpos⟩] X.env)).any (·.1.isNone)) = false := by rfl) : SM X W (.Call (.Name "InvalidText" p) [] [⟨some "at", e, kpos⟩] pos) (eMk "InvalidText" ["at"] [] [fa]) := by
  subst hK hm
  obtain ⟨fd, A⟩ := c.a_InvalidText
  obtain ⟨its, _, b⟩ := A.binds (fun us => ⟨[us.headD .none], [("at", us.getLastD .none)]⟩) 2 (fun us _ => us) (fun e => by cases e) (fun _ T kV doc pm an cdv ct cc us its l1 l2 => match us, its, l1, l2 with | [_, _], [_], _, _ => ⟨_, rfl, rfl⟩)
  exact SM.kw1 ⟨A.T, A.iC, A.tI, A.fn (k := 0) tx_InvalidText hP c.n_super⟩ (fun s a u I => b s [a, u] I rfl) c.g_InvalidText rfl hr hg ha hall hks hpl
theorem Fx.a_InvalidSaying (c : Fx K h mg) : ∃ fd, FunI K FILE x_InvalidSaying fd := c.says.x 1 (d := x_InvalidSaying) rfl
theorem Fx.t_InvalidSaying (c : Fx K h mg) : XC K (He.ga K "InvalidSaying") := c.a_InvalidSaying.choose_spec.T
theorem Fx.l_InvalidSaying_at (c : Fx K h mg) : PySem.W.findIn K (.ref (He.ga K "InvalidSaying")) "at" = some none := (c.a_InvalidSaying.choose_spec.fl "at" (by decide)).2
theorem tx_InvalidSaying : TxD x_InvalidSaying := ⟨⟨_, _, _, _, _, _, _, _, _, _, _, rfl, (.cons FldSts.nil), rfl, rfl, fun _ _ _ _ => rfl⟩, NdefX.nscope_by (by kernel_rfl), by kernel_rfl, by decide, by decide⟩
theorem Fx.e_InvalidSaying (c : Fx K h mg) {X : L2.Cx} (hK : X.K = K) (hm : X.mg = mg) (hP : XP X.prog FILE) : ExK X "InvalidSaying" ["at"] 1 [] := by
  subst hK hm
  obtain ⟨fd, A⟩ := c.a_InvalidSaying
  obtain ⟨its, _, b⟩ := A.binds (fun us => ⟨us, []⟩) 2 (fun us _ => us) (fun e => by cases e) (fun _ T kV doc pm an cdv ct cc us its l1 l2 => match us, its, l1, l2 with | [_, _], [_], _, _ => ⟨_, rfl, rfl⟩)
  exact ExK.of A tx_InvalidSaying hP c.n_super c.g_InvalidSaying rfl (fun s us I hl => by
    rw [List.append_nil] at hl ⊢
    exact b s us I hl)
theorem Fx.s_InvalidSaying (c : Fx K h mg) {X : L2.Cx} {W : WX} {e : Expr} {fa : PL.Env → PL.Res Rv} {p pos kpos : Pos} (hK : X.K = K) (hm : X.mg = mg) (hP : XP X.prog FILE) (hr : Room 2 X.A) (hg : Gl X "InvalidSaying") (ha : SE X W e fa)
    (hall : (backToKw pos (keywordEach [⟨some "at", e, kpos⟩] X.env)).all (·.1.isSome) = true := by rfl) (hks : (backToKw pos (keywordEach [⟨some "at", e, kpos⟩] X.env)).filterMap (·.1) = [("at" : Str)] := by rfl)
    (hpl : ((backTo pos (starEach [] X.env)).any (·.1) || (backToKw pos (keywordEach [⟨some "at", e, kpos⟩] X.env)).any (·.1.isNone)) = false := by rfl) : SM X W (.Call (.Name "InvalidSaying" p) [] [⟨some "at", e, kpos⟩] pos) (eMk "InvalidSaying" ["at"] [] [fa]) := by
  subst hK hm
  obtain ⟨fd, A⟩ := c.a_InvalidSaying
  obtain ⟨its, _, b⟩ := A.binds (fun us => ⟨[us.headD .none], [("at", us.getLastD .none)]⟩) 2 (fun us _ => us) (fun e => by cases e) (fun _ T kV doc pm an cdv ct cc us its l1 l2 => match us, its, l1, l2 with | [_, _], [_], _, _ => ⟨_, rfl, rfl⟩)
  exact SM.kw1 ⟨A.T, A.iC, A.tI, A.fn (k := 0) tx_InvalidSaying hP c.n_super⟩ (fun s a u I => b s [a, u] I rfl) c.g_InvalidSaying rfl hr hg ha hall hks hpl
theorem Fx.a_InvalidSheet (c : Fx K h mg) : ∃ fd, FunI K FILE x_InvalidSheet fd := c.says.x 2 (d := x_InvalidSheet) rfl
theorem Fx.t_InvalidSheet (c : Fx K h mg) : XC K (He.ga K "InvalidSheet") := c.a_InvalidSheet.choose_spec.T
theorem Fx.l_InvalidSheet_at (c : Fx K h mg) : PySem.W.findIn K (.ref (He.ga K "InvalidSheet")) "at" = some none := (c.a_InvalidSheet.choose_spec.fl "at" (by decide)).2
theorem tx_InvalidSheet : TxD x_InvalidSheet := ⟨⟨_, _, _, _, _, _, _, _, _, _, _, rfl, (.cons FldSts.nil), rfl, rfl, fun _ _ _ _ => rfl⟩, NdefX.nscope_by (by kernel_rfl), by kernel_rfl, by decide, by decide⟩
theorem Fx.e_InvalidSheet (c : Fx K h mg) {X : L2.Cx} (hK : X.K = K) (hm : X.mg = mg) (hP : XP X.prog FILE) : ExK X "InvalidSheet" ["at"] 1 [] := by
  subst hK hm
  obtain ⟨fd, A⟩ := c.a_InvalidSheet
  obtain ⟨its, _, b⟩ := A.binds (fun us => ⟨us, []⟩) 2 (fun us _ => us) (fun e => by cases e) (fun _ T kV doc pm an cdv ct cc us its l1 l2 => match us, its, l1, l2 with | [_, _], [_], _, _ => ⟨_, rfl, rfl⟩)
  exact ExK.of A tx_InvalidSheet hP c.n_super c.g_InvalidSheet rfl (fun s us I hl => by
    rw [List.append_nil] at hl ⊢
    exact b s us I hl)
theorem Fx.s_InvalidSheet (c : Fx K h mg) {X : L2.Cx} {W : WX} {e : Expr} {fa : PL.Env → PL.Res Rv} {p pos kpos : Pos} (hK : X.K = K) (hm : X.mg = mg) (hP : XP X.prog FILE) (hr : Room 2 X.A) (hg : Gl X "InvalidSheet") (ha : SE X W e fa)
    (hall : (backToKw pos (keywordEach [⟨some "at", e, kpos⟩] X.env)).all (·.1.isSome) = true := by rfl) (hks : (backToKw pos (keywordEach [⟨some "at", e, kpos⟩] X.env)).filterMap (·.1) = [("at" : Str)] := by rfl)
    (hpl : ((backTo pos (starEach [] X.env)).any (·.1) || (backToKw pos (keywordEach [⟨some "at", e, kpos⟩] X.env)).any (·.1.isNone)) = false := by rfl) : SM X W (.Call (.Name "InvalidSheet" p) [] [⟨some "at", e, kpos⟩] pos) (eMk "InvalidSheet" ["at"] [] [fa]) := by
  subst hK hm
  obtain ⟨fd, A⟩ := c.a_InvalidSheet
  obtain ⟨its, _, b⟩ := A.binds (fun us => ⟨[us.headD .none], [("at", us.getLastD .none)]⟩) 2 (fun us _ => us) (fun e => by cases e) (fun _ T kV doc pm an cdv ct cc us its l1 l2 => match us, its, l1, l2 with | [_, _], [_], _, _ => ⟨_, rfl, rfl⟩)
  exact SM.kw1 ⟨A.T, A.iC, A.tI, A.fn (k := 0) tx_InvalidSheet hP c.n_super⟩ (fun s a u I => b s [a, u] I rfl) c.g_InvalidSheet rfl hr hg ha hall hks hpl
theorem Fx.a_InvalidFilling (c : Fx K h mg) : ∃ fd, FunI K FILE x_InvalidFilling fd := c.says.x 3 (d := x_InvalidFilling) rfl
theorem Fx.t_InvalidFilling (c : Fx K h mg) : XC K (He.ga K "InvalidFilling") := c.a_InvalidFilling.choose_spec.T
theorem Fx.l_InvalidFilling_at (c : Fx K h mg) : PySem.W.findIn K (.ref (He.ga K "InvalidFilling")) "at" = some none := (c.a_InvalidFilling.choose_spec.fl "at" (by decide)).2
theorem tx_InvalidFilling : TxD x_InvalidFilling := ⟨⟨_, _, _, _, _, _, _, _, _, _, _, rfl, (.cons FldSts.nil), rfl, rfl, fun _ _ _ _ => rfl⟩, NdefX.nscope_by (by kernel_rfl), by kernel_rfl, by decide, by decide⟩
theorem Fx.e_InvalidFilling (c : Fx K h mg) {X : L2.Cx} (hK : X.K = K) (hm : X.mg = mg) (hP : XP X.prog FILE) : ExK X "InvalidFilling" ["at"] 1 [] := by
  subst hK hm
  obtain ⟨fd, A⟩ := c.a_InvalidFilling
  obtain ⟨its, _, b⟩ := A.binds (fun us => ⟨us, []⟩) 2 (fun us _ => us) (fun e => by cases e) (fun _ T kV doc pm an cdv ct cc us its l1 l2 => match us, its, l1, l2 with | [_, _], [_], _, _ => ⟨_, rfl, rfl⟩)
  exact ExK.of A tx_InvalidFilling hP c.n_super c.g_InvalidFilling rfl (fun s us I hl => by
    rw [List.append_nil] at hl ⊢
    exact b s us I hl)
theorem Fx.s_InvalidFilling (c : Fx K h mg) {X : L2.Cx} {W : WX} {e : Expr} {fa : PL.Env → PL.Res Rv} {p pos kpos : Pos} (hK : X.K = K) (hm : X.mg = mg) (hP : XP X.prog FILE) (hr : Room 2 X.A) (hg : Gl X "InvalidFilling") (ha : SE X W e fa)
    (hall : (backToKw pos (keywordEach [⟨some "at", e, kpos⟩] X.env)).all (·.1.isSome) = true := by rfl) (hks : (backToKw pos (keywordEach [⟨some "at", e, kpos⟩] X.env)).filterMap (·.1) = [("at" : Str)] := by rfl)
    (hpl : ((backTo pos (starEach [] X.env)).any (·.1) || (backToKw pos (keywordEach [⟨some "at", e, kpos⟩] X.env)).any (·.1.isNone)) = false := by rfl) : SM X W (.Call (.Name "InvalidFilling" p) [] [⟨some "at", e, kpos⟩] pos) (eMk "InvalidFilling" ["at"] [] [fa]) := by
  subst hK hm
  obtain ⟨fd, A⟩ := c.a_InvalidFilling
  obtain ⟨its, _, b⟩ := A.binds (fun us => ⟨[us.headD .none], [("at", us.getLastD .none)]⟩) 2 (fun us _ => us) (fun e => by cases e) (fun _ T kV doc pm an cdv ct cc us its l1 l2 => match us, its, l1, l2 with | [_, _], [_], _, _ => ⟨_, rfl, rfl⟩)
  exact SM.kw1 ⟨A.T, A.iC, A.tI, A.fn (k := 0) tx_InvalidFilling hP c.n_super⟩ (fun s a u I => b s [a, u] I rfl) c.g_InvalidFilling rfl hr hg ha hall hks hpl
theorem Fx.a_InvalidMakers (c : Fx K h mg) : ∃ fd, FunI K FILE x_InvalidMakers fd := c.says.x 4 (d := x_InvalidMakers) rfl
theorem Fx.t_InvalidMakers (c : Fx K h mg) : XC K (He.ga K "InvalidMakers") := c.a_InvalidMakers.choose_spec.T
theorem Fx.l_InvalidMakers_at (c : Fx K h mg) : PySem.W.findIn K (.ref (He.ga K "InvalidMakers")) "at" = some none := (c.a_InvalidMakers.choose_spec.fl "at" (by decide)).2
theorem tx_InvalidMakers : TxD x_InvalidMakers := ⟨⟨_, _, _, _, _, _, _, _, _, _, _, rfl, (.cons FldSts.nil), rfl, rfl, fun _ _ _ _ => rfl⟩, NdefX.nscope_by (by kernel_rfl), by kernel_rfl, by decide, by decide⟩
theorem Fx.e_InvalidMakers (c : Fx K h mg) {X : L2.Cx} (hK : X.K = K) (hm : X.mg = mg) (hP : XP X.prog FILE) : ExK X "InvalidMakers" ["at"] 1 [] := by
  subst hK hm
  obtain ⟨fd, A⟩ := c.a_InvalidMakers
  obtain ⟨its, _, b⟩ := A.binds (fun us => ⟨us, []⟩) 2 (fun us _ => us) (fun e => by cases e) (fun _ T kV doc pm an cdv ct cc us its l1 l2 => match us, its, l1, l2 with | [_, _], [_], _, _ => ⟨_, rfl, rfl⟩)
  exact ExK.of A tx_InvalidMakers hP c.n_super c.g_InvalidMakers rfl (fun s us I hl => by
    rw [List.append_nil] at hl ⊢
    exact b s us I hl)
theorem Fx.s_InvalidMakers (c : Fx K h mg) {X : L2.Cx} {W : WX} {e : Expr} {fa : PL.Env → PL.Res Rv} {p pos kpos : Pos} (hK : X.K = K) (hm : X.mg = mg) (hP : XP X.prog FILE) (hr : Room 2 X.A) (hg : Gl X "InvalidMakers") (ha : SE X W e fa)
    (hall : (backToKw pos (keywordEach [⟨some "at", e, kpos⟩] X.env)).all (·.1.isSome) = true := by rfl) (hks : (backToKw pos (keywordEach [⟨some "at", e, kpos⟩] X.env)).filterMap (·.1) = [("at" : Str)] := by rfl)
    (hpl : ((backTo pos (starEach [] X.env)).any (·.1) || (backToKw pos (keywordEach [⟨some "at", e, kpos⟩] X.env)).any (·.1.isNone)) = false := by rfl) : SM X W (.Call (.Name "InvalidMakers" p) [] [⟨some "at", e, kpos⟩] pos) (eMk "InvalidMakers" ["at"] [] [fa]) := by
  subst hK hm
  obtain ⟨fd, A⟩ := c.a_InvalidMakers
  obtain ⟨its, _, b⟩ := A.binds (fun us => ⟨[us.headD .none], [("at", us.getLastD .none)]⟩) 2 (fun us _ => us) (fun e => by cases e) (fun _ T kV doc pm an cdv ct cc us its l1 l2 => match us, its, l1, l2 with | [_, _], [_], _, _ => ⟨_, rfl, rfl⟩)
  exact SM.kw1 ⟨A.T, A.iC, A.tI, A.fn (k := 0) tx_InvalidMakers hP c.n_super⟩ (fun s a u I => b s [a, u] I rfl) c.g_InvalidMakers rfl hr hg ha hall hks hpl
theorem Fx.a_InvalidRules (c : Fx K h mg) : ∃ fd, FunI K FILE x_InvalidRules fd := c.says.x 5 (d := x_InvalidRules) rfl
theorem Fx.t_InvalidRules (c : Fx K h mg) : XC K (He.ga K "InvalidRules") := c.a_InvalidRules.choose_spec.T
theorem Fx.l_InvalidRules_at (c : Fx K h mg) : PySem.W.findIn K (.ref (He.ga K "InvalidRules")) "at" = some none := (c.a_InvalidRules.choose_spec.fl "at" (by decide)).2
theorem tx_InvalidRules : TxD x_InvalidRules := ⟨⟨_, _, _, _, _, _, _, _, _, _, _, rfl, (.cons FldSts.nil), rfl, rfl, fun _ _ _ _ => rfl⟩, NdefX.nscope_by (by kernel_rfl), by kernel_rfl, by decide, by decide⟩
theorem Fx.e_InvalidRules (c : Fx K h mg) {X : L2.Cx} (hK : X.K = K) (hm : X.mg = mg) (hP : XP X.prog FILE) : ExK X "InvalidRules" ["at"] 1 [] := by
  subst hK hm
  obtain ⟨fd, A⟩ := c.a_InvalidRules
  obtain ⟨its, _, b⟩ := A.binds (fun us => ⟨us, []⟩) 2 (fun us _ => us) (fun e => by cases e) (fun _ T kV doc pm an cdv ct cc us its l1 l2 => match us, its, l1, l2 with | [_, _], [_], _, _ => ⟨_, rfl, rfl⟩)
  exact ExK.of A tx_InvalidRules hP c.n_super c.g_InvalidRules rfl (fun s us I hl => by
    rw [List.append_nil] at hl ⊢
    exact b s us I hl)
theorem Fx.s_InvalidRules (c : Fx K h mg) {X : L2.Cx} {W : WX} {e : Expr} {fa : PL.Env → PL.Res Rv} {p pos kpos : Pos} (hK : X.K = K) (hm : X.mg = mg) (hP : XP X.prog FILE) (hr : Room 2 X.A) (hg : Gl X "InvalidRules") (ha : SE X W e fa)
    (hall : (backToKw pos (keywordEach [⟨some "at", e, kpos⟩] X.env)).all (·.1.isSome) = true := by rfl) (hks : (backToKw pos (keywordEach [⟨some "at", e, kpos⟩] X.env)).filterMap (·.1) = [("at" : Str)] := by rfl)
    (hpl : ((backTo pos (starEach [] X.env)).any (·.1) || (backToKw pos (keywordEach [⟨some "at", e, kpos⟩] X.env)).any (·.1.isNone)) = false := by rfl) : SM X W (.Call (.Name "InvalidRules" p) [] [⟨some "at", e, kpos⟩] pos) (eMk "InvalidRules" ["at"] [] [fa]) := by
  subst hK hm
  obtain ⟨fd, A⟩ := c.a_InvalidRules
  obtain ⟨its, _, b⟩ := A.binds (fun us => ⟨[us.headD .none], [("at", us.getLastD .none)]⟩) 2 (fun us _ => us) (fun e => by cases e) (fun _ T kV doc pm an cdv ct cc us its l1 l2 => match us, its, l1, l2 with | [_, _], [_], _, _ => ⟨_, rfl, rfl⟩)
  exact SM.kw1 ⟨A.T, A.iC, A.tI, A.fn (k := 0) tx_InvalidRules hP c.n_super⟩ (fun s a u I => b s [a, u] I rfl) c.g_InvalidRules rfl hr hg ha hall hks hpl
theorem Fx.a_InvalidBook (c : Fx K h mg) : ∃ fd, FunI K FILE x_InvalidBook fd := c.says.x 6 (d := x_InvalidBook) rfl
theorem Fx.t_InvalidBook (c : Fx K h mg) : XC K (He.ga K "InvalidBook") := c.a_InvalidBook.choose_spec.T
theorem Fx.l_InvalidBook_at (c : Fx K h mg) : PySem.W.findIn K (.ref (He.ga K "InvalidBook")) "at" = some none := (c.a_InvalidBook.choose_spec.fl "at" (by decide)).2
theorem tx_InvalidBook : TxD x_InvalidBook := ⟨⟨_, _, _, _, _, _, _, _, _, _, _, rfl, (.cons FldSts.nil), rfl, rfl, fun _ _ _ _ => rfl⟩, NdefX.nscope_by (by kernel_rfl), by kernel_rfl, by decide, by decide⟩
theorem Fx.e_InvalidBook (c : Fx K h mg) {X : L2.Cx} (hK : X.K = K) (hm : X.mg = mg) (hP : XP X.prog FILE) : ExK X "InvalidBook" ["at"] 1 [] := by
  subst hK hm
  obtain ⟨fd, A⟩ := c.a_InvalidBook
  obtain ⟨its, _, b⟩ := A.binds (fun us => ⟨us, []⟩) 2 (fun us _ => us) (fun e => by cases e) (fun _ T kV doc pm an cdv ct cc us its l1 l2 => match us, its, l1, l2 with | [_, _], [_], _, _ => ⟨_, rfl, rfl⟩)
  exact ExK.of A tx_InvalidBook hP c.n_super c.g_InvalidBook rfl (fun s us I hl => by
    rw [List.append_nil] at hl ⊢
    exact b s us I hl)
theorem Fx.s_InvalidBook (c : Fx K h mg) {X : L2.Cx} {W : WX} {e : Expr} {fa : PL.Env → PL.Res Rv} {p pos kpos : Pos} (hK : X.K = K) (hm : X.mg = mg) (hP : XP X.prog FILE) (hr : Room 2 X.A) (hg : Gl X "InvalidBook") (ha : SE X W e fa)
    (hall : (backToKw pos (keywordEach [⟨some "at", e, kpos⟩] X.env)).all (·.1.isSome) = true := by rfl) (hks : (backToKw pos (keywordEach [⟨some "at", e, kpos⟩] X.env)).filterMap (·.1) = [("at" : Str)] := by rfl)
    (hpl : ((backTo pos (starEach [] X.env)).any (·.1) || (backToKw pos (keywordEach [⟨some "at", e, kpos⟩] X.env)).any (·.1.isNone)) = false := by rfl) : SM X W (.Call (.Name "InvalidBook" p) [] [⟨some "at", e, kpos⟩] pos) (eMk "InvalidBook" ["at"] [] [fa]) := by
  subst hK hm
  obtain ⟨fd, A⟩ := c.a_InvalidBook
  obtain ⟨its, _, b⟩ := A.binds (fun us => ⟨[us.headD .none], [("at", us.getLastD .none)]⟩) 2 (fun us _ => us) (fun e => by cases e) (fun _ T kV doc pm an cdv ct cc us its l1 l2 => match us, its, l1, l2 with | [_, _], [_], _, _ => ⟨_, rfl, rfl⟩)
  exact SM.kw1 ⟨A.T, A.iC, A.tI, A.fn (k := 0) tx_InvalidBook hP c.n_super⟩ (fun s a u I => b s [a, u] I rfl) c.g_InvalidBook rfl hr hg ha hall hks hpl
theorem Fx.a_InvalidRow (c : Fx K h mg) : ∃ fd, FunI K FILE x_InvalidRow fd := c.says.x 7 (d := x_InvalidRow) rfl
theorem Fx.t_InvalidRow (c : Fx K h mg) : XC K (He.ga K "InvalidRow") := c.a_InvalidRow.choose_spec.T
theorem Fx.l_InvalidRow_at (c : Fx K h mg) : PySem.W.findIn K (.ref (He.ga K "InvalidRow")) "at" = some none := (c.a_InvalidRow.choose_spec.fl "at" (by decide)).2
theorem tx_InvalidRow : TxD x_InvalidRow := ⟨⟨_, _, _, _, _, _, _, _, _, _, _, rfl, (.cons FldSts.nil), rfl, rfl, fun _ _ _ _ => rfl⟩, NdefX.nscope_by (by kernel_rfl), by kernel_rfl, by decide, by decide⟩
theorem Fx.e_InvalidRow (c : Fx K h mg) {X : L2.Cx} (hK : X.K = K) (hm : X.mg = mg) (hP : XP X.prog FILE) : ExK X "InvalidRow" ["at"] 1 [] := by
  subst hK hm
  obtain ⟨fd, A⟩ := c.a_InvalidRow
  obtain ⟨its, _, b⟩ := A.binds (fun us => ⟨us, []⟩) 2 (fun us _ => us) (fun e => by cases e) (fun _ T kV doc pm an cdv ct cc us its l1 l2 => match us, its, l1, l2 with | [_, _], [_], _, _ => ⟨_, rfl, rfl⟩)
  exact ExK.of A tx_InvalidRow hP c.n_super c.g_InvalidRow rfl (fun s us I hl => by
    rw [List.append_nil] at hl ⊢
    exact b s us I hl)
theorem Fx.s_InvalidRow (c : Fx K h mg) {X : L2.Cx} {W : WX} {e : Expr} {fa : PL.Env → PL.Res Rv} {p pos kpos : Pos} (hK : X.K = K) (hm : X.mg = mg) (hP : XP X.prog FILE) (hr : Room 2 X.A) (hg : Gl X "InvalidRow") (ha : SE X W e fa)
    (hall : (backToKw pos (keywordEach [⟨some "at", e, kpos⟩] X.env)).all (·.1.isSome) = true := by rfl) (hks : (backToKw pos (keywordEach [⟨some "at", e, kpos⟩] X.env)).filterMap (·.1) = [("at" : Str)] := by rfl)
    (hpl : ((backTo pos (starEach [] X.env)).any (·.1) || (backToKw pos (keywordEach [⟨some "at", e, kpos⟩] X.env)).any (·.1.isNone)) = false := by rfl) : SM X W (.Call (.Name "InvalidRow" p) [] [⟨some "at", e, kpos⟩] pos) (eMk "InvalidRow" ["at"] [] [fa]) := by
  subst hK hm
  obtain ⟨fd, A⟩ := c.a_InvalidRow
  obtain ⟨its, _, b⟩ := A.binds (fun us => ⟨[us.headD .none], [("at", us.getLastD .none)]⟩) 2 (fun us _ => us) (fun e => by cases e) (fun _ T kV doc pm an cdv ct cc us its l1 l2 => match us, its, l1, l2 with | [_, _], [_], _, _ => ⟨_, rfl, rfl⟩)
  exact SM.kw1 ⟨A.T, A.iC, A.tI, A.fn (k := 0) tx_InvalidRow hP c.n_super⟩ (fun s a u I => b s [a, u] I rfl) c.g_InvalidRow rfl hr hg ha hall hks hpl
theorem Fx.a_InvalidPremises (c : Fx K h mg) : ∃ fd, FunI K FILE x_InvalidPremises fd := c.says.x 8 (d := x_InvalidPremises) rfl
theorem Fx.t_InvalidPremises (c : Fx K h mg) : XC K (He.ga K "InvalidPremises") := c.a_InvalidPremises.choose_spec.T
theorem Fx.l_InvalidPremises_at (c : Fx K h mg) : PySem.W.findIn K (.ref (He.ga K "InvalidPremises")) "at" = some none := (c.a_InvalidPremises.choose_spec.fl "at" (by decide)).2
theorem tx_InvalidPremises : TxD x_InvalidPremises := ⟨⟨_, _, _, _, _, _, _, _, _, _, _, rfl, (.cons FldSts.nil), rfl, rfl, fun _ _ _ _ => rfl⟩, NdefX.nscope_by (by kernel_rfl), by kernel_rfl, by decide, by decide⟩
theorem Fx.e_InvalidPremises (c : Fx K h mg) {X : L2.Cx} (hK : X.K = K) (hm : X.mg = mg) (hP : XP X.prog FILE) : ExK X "InvalidPremises" ["at"] 1 [] := by
  subst hK hm
  obtain ⟨fd, A⟩ := c.a_InvalidPremises
  obtain ⟨its, _, b⟩ := A.binds (fun us => ⟨us, []⟩) 2 (fun us _ => us) (fun e => by cases e) (fun _ T kV doc pm an cdv ct cc us its l1 l2 => match us, its, l1, l2 with | [_, _], [_], _, _ => ⟨_, rfl, rfl⟩)
  exact ExK.of A tx_InvalidPremises hP c.n_super c.g_InvalidPremises rfl (fun s us I hl => by
    rw [List.append_nil] at hl ⊢
    exact b s us I hl)
theorem Fx.s_InvalidPremises (c : Fx K h mg) {X : L2.Cx} {W : WX} {e : Expr} {fa : PL.Env → PL.Res Rv} {p pos kpos : Pos} (hK : X.K = K) (hm : X.mg = mg) (hP : XP X.prog FILE) (hr : Room 2 X.A) (hg : Gl X "InvalidPremises") (ha : SE X W e fa)
    (hall : (backToKw pos (keywordEach [⟨some "at", e, kpos⟩] X.env)).all (·.1.isSome) = true := by rfl) (hks : (backToKw pos (keywordEach [⟨some "at", e, kpos⟩] X.env)).filterMap (·.1) = [("at" : Str)] := by rfl)
    (hpl : ((backTo pos (starEach [] X.env)).any (·.1) || (backToKw pos (keywordEach [⟨some "at", e, kpos⟩] X.env)).any (·.1.isNone)) = false := by rfl) : SM X W (.Call (.Name "InvalidPremises" p) [] [⟨some "at", e, kpos⟩] pos) (eMk "InvalidPremises" ["at"] [] [fa]) := by
  subst hK hm
  obtain ⟨fd, A⟩ := c.a_InvalidPremises
  obtain ⟨its, _, b⟩ := A.binds (fun us => ⟨[us.headD .none], [("at", us.getLastD .none)]⟩) 2 (fun us _ => us) (fun e => by cases e) (fun _ T kV doc pm an cdv ct cc us its l1 l2 => match us, its, l1, l2 with | [_, _], [_], _, _ => ⟨_, rfl, rfl⟩)
  exact SM.kw1 ⟨A.T, A.iC, A.tI, A.fn (k := 0) tx_InvalidPremises hP c.n_super⟩ (fun s a u I => b s [a, u] I rfl) c.g_InvalidPremises rfl hr hg ha hall hks hpl
theorem Fx.a_InvalidProof (c : Fx K h mg) : ∃ fd, FunI K FILE x_InvalidProof fd := c.says.x 9 (d := x_InvalidProof) rfl
theorem Fx.t_InvalidProof (c : Fx K h mg) : XC K (He.ga K "InvalidProof") := c.a_InvalidProof.choose_spec.T
theorem Fx.l_InvalidProof_at (c : Fx K h mg) : PySem.W.findIn K (.ref (He.ga K "InvalidProof")) "at" = some none := (c.a_InvalidProof.choose_spec.fl "at" (by decide)).2
theorem tx_InvalidProof : TxD x_InvalidProof := ⟨⟨_, _, _, _, _, _, _, _, _, _, _, rfl, (.cons FldSts.nil), rfl, rfl, fun _ _ _ _ => rfl⟩, NdefX.nscope_by (by kernel_rfl), by kernel_rfl, by decide, by decide⟩
theorem Fx.e_InvalidProof (c : Fx K h mg) {X : L2.Cx} (hK : X.K = K) (hm : X.mg = mg) (hP : XP X.prog FILE) : ExK X "InvalidProof" ["at"] 1 [] := by
  subst hK hm
  obtain ⟨fd, A⟩ := c.a_InvalidProof
  obtain ⟨its, _, b⟩ := A.binds (fun us => ⟨us, []⟩) 2 (fun us _ => us) (fun e => by cases e) (fun _ T kV doc pm an cdv ct cc us its l1 l2 => match us, its, l1, l2 with | [_, _], [_], _, _ => ⟨_, rfl, rfl⟩)
  exact ExK.of A tx_InvalidProof hP c.n_super c.g_InvalidProof rfl (fun s us I hl => by
    rw [List.append_nil] at hl ⊢
    exact b s us I hl)
theorem Fx.s_InvalidProof (c : Fx K h mg) {X : L2.Cx} {W : WX} {e : Expr} {fa : PL.Env → PL.Res Rv} {p pos kpos : Pos} (hK : X.K = K) (hm : X.mg = mg) (hP : XP X.prog FILE) (hr : Room 2 X.A) (hg : Gl X "InvalidProof") (ha : SE X W e fa)
    (hall : (backToKw pos (keywordEach [⟨some "at", e, kpos⟩] X.env)).all (·.1.isSome) = true := by rfl) (hks : (backToKw pos (keywordEach [⟨some "at", e, kpos⟩] X.env)).filterMap (·.1) = [("at" : Str)] := by rfl)
    (hpl : ((backTo pos (starEach [] X.env)).any (·.1) || (backToKw pos (keywordEach [⟨some "at", e, kpos⟩] X.env)).any (·.1.isNone)) = false := by rfl) : SM X W (.Call (.Name "InvalidProof" p) [] [⟨some "at", e, kpos⟩] pos) (eMk "InvalidProof" ["at"] [] [fa]) := by
  subst hK hm
  obtain ⟨fd, A⟩ := c.a_InvalidProof
  obtain ⟨its, _, b⟩ := A.binds (fun us => ⟨[us.headD .none], [("at", us.getLastD .none)]⟩) 2 (fun us _ => us) (fun e => by cases e) (fun _ T kV doc pm an cdv ct cc us its l1 l2 => match us, its, l1, l2 with | [_, _], [_], _, _ => ⟨_, rfl, rfl⟩)
  exact SM.kw1 ⟨A.T, A.iC, A.tI, A.fn (k := 0) tx_InvalidProof hP c.n_super⟩ (fun s a u I => b s [a, u] I rfl) c.g_InvalidProof rfl hr hg ha hall hks hpl
theorem Fx.a_InvalidFacts (c : Fx K h mg) : ∃ fd, FunI K FILE x_InvalidFacts fd := c.says.x 10 (d := x_InvalidFacts) rfl
theorem Fx.t_InvalidFacts (c : Fx K h mg) : XC K (He.ga K "InvalidFacts") := c.a_InvalidFacts.choose_spec.T
theorem Fx.l_InvalidFacts_at (c : Fx K h mg) : PySem.W.findIn K (.ref (He.ga K "InvalidFacts")) "at" = some none := (c.a_InvalidFacts.choose_spec.fl "at" (by decide)).2
theorem tx_InvalidFacts : TxD x_InvalidFacts := ⟨⟨_, _, _, _, _, _, _, _, _, _, _, rfl, (.cons FldSts.nil), rfl, rfl, fun _ _ _ _ => rfl⟩, NdefX.nscope_by (by kernel_rfl), by kernel_rfl, by decide, by decide⟩
theorem Fx.e_InvalidFacts (c : Fx K h mg) {X : L2.Cx} (hK : X.K = K) (hm : X.mg = mg) (hP : XP X.prog FILE) : ExK X "InvalidFacts" ["at"] 1 [] := by
  subst hK hm
  obtain ⟨fd, A⟩ := c.a_InvalidFacts
  obtain ⟨its, _, b⟩ := A.binds (fun us => ⟨us, []⟩) 2 (fun us _ => us) (fun e => by cases e) (fun _ T kV doc pm an cdv ct cc us its l1 l2 => match us, its, l1, l2 with | [_, _], [_], _, _ => ⟨_, rfl, rfl⟩)
  exact ExK.of A tx_InvalidFacts hP c.n_super c.g_InvalidFacts rfl (fun s us I hl => by
    rw [List.append_nil] at hl ⊢
    exact b s us I hl)
theorem Fx.s_InvalidFacts (c : Fx K h mg) {X : L2.Cx} {W : WX} {e : Expr} {fa : PL.Env → PL.Res Rv} {p pos kpos : Pos} (hK : X.K = K) (hm : X.mg = mg) (hP : XP X.prog FILE) (hr : Room 2 X.A) (hg : Gl X "InvalidFacts") (ha : SE X W e fa)
    (hall : (backToKw pos (keywordEach [⟨some "at", e, kpos⟩] X.env)).all (·.1.isSome) = true := by rfl) (hks : (backToKw pos (keywordEach [⟨some "at", e, kpos⟩] X.env)).filterMap (·.1) = [("at" : Str)] := by rfl)
    (hpl : ((backTo pos (starEach [] X.env)).any (·.1) || (backToKw pos (keywordEach [⟨some "at", e, kpos⟩] X.env)).any (·.1.isNone)) = false := by rfl) : SM X W (.Call (.Name "InvalidFacts" p) [] [⟨some "at", e, kpos⟩] pos) (eMk "InvalidFacts" ["at"] [] [fa]) := by
  subst hK hm
  obtain ⟨fd, A⟩ := c.a_InvalidFacts
  obtain ⟨its, _, b⟩ := A.binds (fun us => ⟨[us.headD .none], [("at", us.getLastD .none)]⟩) 2 (fun us _ => us) (fun e => by cases e) (fun _ T kV doc pm an cdv ct cc us its l1 l2 => match us, its, l1, l2 with | [_, _], [_], _, _ => ⟨_, rfl, rfl⟩)
  exact SM.kw1 ⟨A.T, A.iC, A.tI, A.fn (k := 0) tx_InvalidFacts hP c.n_super⟩ (fun s a u I => b s [a, u] I rfl) c.g_InvalidFacts rfl hr hg ha hall hks hpl
theorem Fx.a_InvalidLot (c : Fx K h mg) : ∃ fd, FunI K FILE x_InvalidLot fd := c.says.x 11 (d := x_InvalidLot) rfl
theorem Fx.t_InvalidLot (c : Fx K h mg) : XC K (He.ga K "InvalidLot") := c.a_InvalidLot.choose_spec.T
theorem Fx.l_InvalidLot_at (c : Fx K h mg) : PySem.W.findIn K (.ref (He.ga K "InvalidLot")) "at" = some none := (c.a_InvalidLot.choose_spec.fl "at" (by decide)).2
theorem tx_InvalidLot : TxD x_InvalidLot := ⟨⟨_, _, _, _, _, _, _, _, _, _, _, rfl, (.cons FldSts.nil), rfl, rfl, fun _ _ _ _ => rfl⟩, NdefX.nscope_by (by kernel_rfl), by kernel_rfl, by decide, by decide⟩
theorem Fx.e_InvalidLot (c : Fx K h mg) {X : L2.Cx} (hK : X.K = K) (hm : X.mg = mg) (hP : XP X.prog FILE) : ExK X "InvalidLot" ["at"] 1 [] := by
  subst hK hm
  obtain ⟨fd, A⟩ := c.a_InvalidLot
  obtain ⟨its, _, b⟩ := A.binds (fun us => ⟨us, []⟩) 2 (fun us _ => us) (fun e => by cases e) (fun _ T kV doc pm an cdv ct cc us its l1 l2 => match us, its, l1, l2 with | [_, _], [_], _, _ => ⟨_, rfl, rfl⟩)
  exact ExK.of A tx_InvalidLot hP c.n_super c.g_InvalidLot rfl (fun s us I hl => by
    rw [List.append_nil] at hl ⊢
    exact b s us I hl)
theorem Fx.s_InvalidLot (c : Fx K h mg) {X : L2.Cx} {W : WX} {e : Expr} {fa : PL.Env → PL.Res Rv} {p pos kpos : Pos} (hK : X.K = K) (hm : X.mg = mg) (hP : XP X.prog FILE) (hr : Room 2 X.A) (hg : Gl X "InvalidLot") (ha : SE X W e fa)
    (hall : (backToKw pos (keywordEach [⟨some "at", e, kpos⟩] X.env)).all (·.1.isSome) = true := by rfl) (hks : (backToKw pos (keywordEach [⟨some "at", e, kpos⟩] X.env)).filterMap (·.1) = [("at" : Str)] := by rfl)
    (hpl : ((backTo pos (starEach [] X.env)).any (·.1) || (backToKw pos (keywordEach [⟨some "at", e, kpos⟩] X.env)).any (·.1.isNone)) = false := by rfl) : SM X W (.Call (.Name "InvalidLot" p) [] [⟨some "at", e, kpos⟩] pos) (eMk "InvalidLot" ["at"] [] [fa]) := by
  subst hK hm
  obtain ⟨fd, A⟩ := c.a_InvalidLot
  obtain ⟨its, _, b⟩ := A.binds (fun us => ⟨[us.headD .none], [("at", us.getLastD .none)]⟩) 2 (fun us _ => us) (fun e => by cases e) (fun _ T kV doc pm an cdv ct cc us its l1 l2 => match us, its, l1, l2 with | [_, _], [_], _, _ => ⟨_, rfl, rfl⟩)
  exact SM.kw1 ⟨A.T, A.iC, A.tI, A.fn (k := 0) tx_InvalidLot hP c.n_super⟩ (fun s a u I => b s [a, u] I rfl) c.g_InvalidLot rfl hr hg ha hall hks hpl
theorem Fx.a_InvalidWorld (c : Fx K h mg) : ∃ fd, FunI K FILE x_InvalidWorld fd := c.says.x 12 (d := x_InvalidWorld) rfl
theorem Fx.t_InvalidWorld (c : Fx K h mg) : XC K (He.ga K "InvalidWorld") := c.a_InvalidWorld.choose_spec.T
theorem Fx.l_InvalidWorld_at (c : Fx K h mg) : PySem.W.findIn K (.ref (He.ga K "InvalidWorld")) "at" = some none := (c.a_InvalidWorld.choose_spec.fl "at" (by decide)).2
theorem tx_InvalidWorld : TxD x_InvalidWorld := ⟨⟨_, _, _, _, _, _, _, _, _, _, _, rfl, (.cons FldSts.nil), rfl, rfl, fun _ _ _ _ => rfl⟩, NdefX.nscope_by (by kernel_rfl), by kernel_rfl, by decide, by decide⟩
theorem Fx.e_InvalidWorld (c : Fx K h mg) {X : L2.Cx} (hK : X.K = K) (hm : X.mg = mg) (hP : XP X.prog FILE) : ExK X "InvalidWorld" ["at"] 1 [] := by
  subst hK hm
  obtain ⟨fd, A⟩ := c.a_InvalidWorld
  obtain ⟨its, _, b⟩ := A.binds (fun us => ⟨us, []⟩) 2 (fun us _ => us) (fun e => by cases e) (fun _ T kV doc pm an cdv ct cc us its l1 l2 => match us, its, l1, l2 with | [_, _], [_], _, _ => ⟨_, rfl, rfl⟩)
  exact ExK.of A tx_InvalidWorld hP c.n_super c.g_InvalidWorld rfl (fun s us I hl => by
    rw [List.append_nil] at hl ⊢
    exact b s us I hl)
theorem Fx.s_InvalidWorld (c : Fx K h mg) {X : L2.Cx} {W : WX} {e : Expr} {fa : PL.Env → PL.Res Rv} {p pos kpos : Pos} (hK : X.K = K) (hm : X.mg = mg) (hP : XP X.prog FILE) (hr : Room 2 X.A) (hg : Gl X "InvalidWorld") (ha : SE X W e fa)
    (hall : (backToKw pos (keywordEach [⟨some "at", e, kpos⟩] X.env)).all (·.1.isSome) = true := by rfl) (hks : (backToKw pos (keywordEach [⟨some "at", e, kpos⟩] X.env)).filterMap (·.1) = [("at" : Str)] := by rfl)
    (hpl : ((backTo pos (starEach [] X.env)).any (·.1) || (backToKw pos (keywordEach [⟨some "at", e, kpos⟩] X.env)).any (·.1.isNone)) = false := by rfl) : SM X W (.Call (.Name "InvalidWorld" p) [] [⟨some "at", e, kpos⟩] pos) (eMk "InvalidWorld" ["at"] [] [fa]) := by
  subst hK hm
  obtain ⟨fd, A⟩ := c.a_InvalidWorld
  obtain ⟨its, _, b⟩ := A.binds (fun us => ⟨[us.headD .none], [("at", us.getLastD .none)]⟩) 2 (fun us _ => us) (fun e => by cases e) (fun _ T kV doc pm an cdv ct cc us its l1 l2 => match us, its, l1, l2 with | [_, _], [_], _, _ => ⟨_, rfl, rfl⟩)
  exact SM.kw1 ⟨A.T, A.iC, A.tI, A.fn (k := 0) tx_InvalidWorld hP c.n_super⟩ (fun s a u I => b s [a, u] I rfl) c.g_InvalidWorld rfl hr hg ha hall hks hpl
theorem Fx.a_InvalidSigned (c : Fx K h mg) : ∃ fd, FunI K FILE x_InvalidSigned fd := c.says.x 13 (d := x_InvalidSigned) rfl
theorem Fx.t_InvalidSigned (c : Fx K h mg) : XC K (He.ga K "InvalidSigned") := c.a_InvalidSigned.choose_spec.T
theorem Fx.l_InvalidSigned_at (c : Fx K h mg) : PySem.W.findIn K (.ref (He.ga K "InvalidSigned")) "at" = some none := (c.a_InvalidSigned.choose_spec.fl "at" (by decide)).2
theorem tx_InvalidSigned : TxD x_InvalidSigned := ⟨⟨_, _, _, _, _, _, _, _, _, _, _, rfl, (.cons FldSts.nil), rfl, rfl, fun _ _ _ _ => rfl⟩, NdefX.nscope_by (by kernel_rfl), by kernel_rfl, by decide, by decide⟩
theorem Fx.e_InvalidSigned (c : Fx K h mg) {X : L2.Cx} (hK : X.K = K) (hm : X.mg = mg) (hP : XP X.prog FILE) : ExK X "InvalidSigned" ["at"] 1 [] := by
  subst hK hm
  obtain ⟨fd, A⟩ := c.a_InvalidSigned
  obtain ⟨its, _, b⟩ := A.binds (fun us => ⟨us, []⟩) 2 (fun us _ => us) (fun e => by cases e) (fun _ T kV doc pm an cdv ct cc us its l1 l2 => match us, its, l1, l2 with | [_, _], [_], _, _ => ⟨_, rfl, rfl⟩)
  exact ExK.of A tx_InvalidSigned hP c.n_super c.g_InvalidSigned rfl (fun s us I hl => by
    rw [List.append_nil] at hl ⊢
    exact b s us I hl)
theorem Fx.s_InvalidSigned (c : Fx K h mg) {X : L2.Cx} {W : WX} {e : Expr} {fa : PL.Env → PL.Res Rv} {p pos kpos : Pos} (hK : X.K = K) (hm : X.mg = mg) (hP : XP X.prog FILE) (hr : Room 2 X.A) (hg : Gl X "InvalidSigned") (ha : SE X W e fa)
    (hall : (backToKw pos (keywordEach [⟨some "at", e, kpos⟩] X.env)).all (·.1.isSome) = true := by rfl) (hks : (backToKw pos (keywordEach [⟨some "at", e, kpos⟩] X.env)).filterMap (·.1) = [("at" : Str)] := by rfl)
    (hpl : ((backTo pos (starEach [] X.env)).any (·.1) || (backToKw pos (keywordEach [⟨some "at", e, kpos⟩] X.env)).any (·.1.isNone)) = false := by rfl) : SM X W (.Call (.Name "InvalidSigned" p) [] [⟨some "at", e, kpos⟩] pos) (eMk "InvalidSigned" ["at"] [] [fa]) := by
  subst hK hm
  obtain ⟨fd, A⟩ := c.a_InvalidSigned
  obtain ⟨its, _, b⟩ := A.binds (fun us => ⟨[us.headD .none], [("at", us.getLastD .none)]⟩) 2 (fun us _ => us) (fun e => by cases e) (fun _ T kV doc pm an cdv ct cc us its l1 l2 => match us, its, l1, l2 with | [_, _], [_], _, _ => ⟨_, rfl, rfl⟩)
  exact SM.kw1 ⟨A.T, A.iC, A.tI, A.fn (k := 0) tx_InvalidSigned hP c.n_super⟩ (fun s a u I => b s [a, u] I rfl) c.g_InvalidSigned rfl hr hg ha hall hks hpl
theorem Fx.a_InvalidIndex (c : Fx K h mg) : ∃ fd, FunI K FILE x_InvalidIndex fd := c.says.x 14 (d := x_InvalidIndex) rfl
theorem Fx.t_InvalidIndex (c : Fx K h mg) : XC K (He.ga K "InvalidIndex") := c.a_InvalidIndex.choose_spec.T
theorem Fx.l_InvalidIndex_at (c : Fx K h mg) : PySem.W.findIn K (.ref (He.ga K "InvalidIndex")) "at" = some none := (c.a_InvalidIndex.choose_spec.fl "at" (by decide)).2
theorem tx_InvalidIndex : TxD x_InvalidIndex := ⟨⟨_, _, _, _, _, _, _, _, _, _, _, rfl, (.cons FldSts.nil), rfl, rfl, fun _ _ _ _ => rfl⟩, NdefX.nscope_by (by kernel_rfl), by kernel_rfl, by decide, by decide⟩
theorem Fx.e_InvalidIndex (c : Fx K h mg) {X : L2.Cx} (hK : X.K = K) (hm : X.mg = mg) (hP : XP X.prog FILE) : ExK X "InvalidIndex" ["at"] 1 [] := by
  subst hK hm
  obtain ⟨fd, A⟩ := c.a_InvalidIndex
  obtain ⟨its, _, b⟩ := A.binds (fun us => ⟨us, []⟩) 2 (fun us _ => us) (fun e => by cases e) (fun _ T kV doc pm an cdv ct cc us its l1 l2 => match us, its, l1, l2 with | [_, _], [_], _, _ => ⟨_, rfl, rfl⟩)
  exact ExK.of A tx_InvalidIndex hP c.n_super c.g_InvalidIndex rfl (fun s us I hl => by
    rw [List.append_nil] at hl ⊢
    exact b s us I hl)
theorem Fx.s_InvalidIndex (c : Fx K h mg) {X : L2.Cx} {W : WX} {e : Expr} {fa : PL.Env → PL.Res Rv} {p pos kpos : Pos} (hK : X.K = K) (hm : X.mg = mg) (hP : XP X.prog FILE) (hr : Room 2 X.A) (hg : Gl X "InvalidIndex") (ha : SE X W e fa)
    (hall : (backToKw pos (keywordEach [⟨some "at", e, kpos⟩] X.env)).all (·.1.isSome) = true := by rfl) (hks : (backToKw pos (keywordEach [⟨some "at", e, kpos⟩] X.env)).filterMap (·.1) = [("at" : Str)] := by rfl)
    (hpl : ((backTo pos (starEach [] X.env)).any (·.1) || (backToKw pos (keywordEach [⟨some "at", e, kpos⟩] X.env)).any (·.1.isNone)) = false := by rfl) : SM X W (.Call (.Name "InvalidIndex" p) [] [⟨some "at", e, kpos⟩] pos) (eMk "InvalidIndex" ["at"] [] [fa]) := by
  subst hK hm
  obtain ⟨fd, A⟩ := c.a_InvalidIndex
  obtain ⟨its, _, b⟩ := A.binds (fun us => ⟨[us.headD .none], [("at", us.getLastD .none)]⟩) 2 (fun us _ => us) (fun e => by cases e) (fun _ T kV doc pm an cdv ct cc us its l1 l2 => match us, its, l1, l2 with | [_, _], [_], _, _ => ⟨_, rfl, rfl⟩)
  exact SM.kw1 ⟨A.T, A.iC, A.tI, A.fn (k := 0) tx_InvalidIndex hP c.n_super⟩ (fun s a u I => b s [a, u] I rfl) c.g_InvalidIndex rfl hr hg ha hall hks hpl
theorem Fx.a_Refused (c : Fx K h mg) : ∃ fd, FunI K FILE x_Refused fd := c.says.x 15 (d := x_Refused) rfl
theorem Fx.t_Refused (c : Fx K h mg) : XC K (He.ga K "Refused") := c.a_Refused.choose_spec.T
theorem Fx.l_Refused_at (c : Fx K h mg) : PySem.W.findIn K (.ref (He.ga K "Refused")) "at" = some none := (c.a_Refused.choose_spec.fl "at" (by decide)).2
theorem tx_Refused : TxD x_Refused := ⟨⟨_, _, _, _, _, _, _, _, _, _, _, rfl, (.cons FldSts.nil), rfl, rfl, fun _ _ _ _ => rfl⟩, NdefX.nscope_by (by kernel_rfl), by kernel_rfl, by decide, by decide⟩
theorem Fx.e_Refused (c : Fx K h mg) {X : L2.Cx} (hK : X.K = K) (hm : X.mg = mg) (hP : XP X.prog FILE) : ExK X "Refused" ["at"] 1 [] := by
  subst hK hm
  obtain ⟨fd, A⟩ := c.a_Refused
  obtain ⟨its, _, b⟩ := A.binds (fun us => ⟨us, []⟩) 2 (fun us _ => us) (fun e => by cases e) (fun _ T kV doc pm an cdv ct cc us its l1 l2 => match us, its, l1, l2 with | [_, _], [_], _, _ => ⟨_, rfl, rfl⟩)
  exact ExK.of A tx_Refused hP c.n_super c.g_Refused rfl (fun s us I hl => by
    rw [List.append_nil] at hl ⊢
    exact b s us I hl)
theorem Fx.s_Refused (c : Fx K h mg) {X : L2.Cx} {W : WX} {e : Expr} {fa : PL.Env → PL.Res Rv} {p pos kpos : Pos} (hK : X.K = K) (hm : X.mg = mg) (hP : XP X.prog FILE) (hr : Room 2 X.A) (hg : Gl X "Refused") (ha : SE X W e fa)
    (hall : (backToKw pos (keywordEach [⟨some "at", e, kpos⟩] X.env)).all (·.1.isSome) = true := by rfl) (hks : (backToKw pos (keywordEach [⟨some "at", e, kpos⟩] X.env)).filterMap (·.1) = [("at" : Str)] := by rfl)
    (hpl : ((backTo pos (starEach [] X.env)).any (·.1) || (backToKw pos (keywordEach [⟨some "at", e, kpos⟩] X.env)).any (·.1.isNone)) = false := by rfl) : SM X W (.Call (.Name "Refused" p) [] [⟨some "at", e, kpos⟩] pos) (eMk "Refused" ["at"] [] [fa]) := by
  subst hK hm
  obtain ⟨fd, A⟩ := c.a_Refused
  obtain ⟨its, _, b⟩ := A.binds (fun us => ⟨[us.headD .none], [("at", us.getLastD .none)]⟩) 2 (fun us _ => us) (fun e => by cases e) (fun _ T kV doc pm an cdv ct cc us its l1 l2 => match us, its, l1, l2 with | [_, _], [_], _, _ => ⟨_, rfl, rfl⟩)
  exact SM.kw1 ⟨A.T, A.iC, A.tI, A.fn (k := 0) tx_Refused hP c.n_super⟩ (fun s a u I => b s [a, u] I rfl) c.g_Refused rfl hr hg ha hall hks hpl
theorem Fx.a_InvalidSize (c : Fx K h mg) : ∃ fd, FunI K FILE x_InvalidSize fd := c.says.x 16 (d := x_InvalidSize) rfl
theorem Fx.t_InvalidSize (c : Fx K h mg) : XC K (He.ga K "InvalidSize") := c.a_InvalidSize.choose_spec.T
theorem Fx.l_InvalidSize_word (c : Fx K h mg) : PySem.W.findIn K (.ref (He.ga K "InvalidSize")) "word" = some none := (c.a_InvalidSize.choose_spec.fl "word" (by decide)).2
theorem tx_InvalidSize : TxD x_InvalidSize := ⟨⟨_, _, _, _, _, _, _, _, _, _, _, rfl, (.cons FldSts.nil), rfl, rfl, fun _ _ _ _ => rfl⟩, NdefX.nscope_by (by kernel_rfl), by kernel_rfl, by decide, by decide⟩
theorem Fx.e_InvalidSize (c : Fx K h mg) {X : L2.Cx} (hK : X.K = K) (hm : X.mg = mg) (hP : XP X.prog FILE) : ExK X "InvalidSize" ["word"] 1 [] := by
  subst hK hm
  obtain ⟨fd, A⟩ := c.a_InvalidSize
  obtain ⟨its, _, b⟩ := A.binds (fun us => ⟨us, []⟩) 2 (fun us _ => us) (fun _ kV doc pm an cdv ct cc us l1 => match us, l1 with | [_, _], _ => rfl) (fun ne => absurd rfl ne)
  exact ExK.of A tx_InvalidSize hP c.n_super c.g_InvalidSize rfl (fun s us I hl => by
    rw [List.append_nil] at hl ⊢
    exact b s us I hl)
theorem Fx.s_InvalidSize (c : Fx K h mg) {X : L2.Cx} {W : WX} {e : Expr} {fa : PL.Env → PL.Res Rv} {p pos kpos : Pos} (hK : X.K = K) (hm : X.mg = mg) (hP : XP X.prog FILE) (hr : Room 2 X.A) (hg : Gl X "InvalidSize") (ha : SE X W e fa)
    (hall : (backToKw pos (keywordEach [⟨some "word", e, kpos⟩] X.env)).all (·.1.isSome) = true := by rfl) (hks : (backToKw pos (keywordEach [⟨some "word", e, kpos⟩] X.env)).filterMap (·.1) = [("word" : Str)] := by rfl)
    (hpl : ((backTo pos (starEach [] X.env)).any (·.1) || (backToKw pos (keywordEach [⟨some "word", e, kpos⟩] X.env)).any (·.1.isNone)) = false := by rfl) : SM X W (.Call (.Name "InvalidSize" p) [] [⟨some "word", e, kpos⟩] pos) (eMk "InvalidSize" ["word"] [] [fa]) := by
  subst hK hm
  obtain ⟨fd, A⟩ := c.a_InvalidSize
  obtain ⟨its, _, b⟩ := A.binds (fun us => ⟨[us.headD .none], [("word", us.getLastD .none)]⟩) 2 (fun us _ => us) (fun _ kV doc pm an cdv ct cc us l1 => match us, l1 with | [_, _], _ => rfl) (fun ne => absurd rfl ne)
  exact SM.kw1 ⟨A.T, A.iC, A.tI, A.fn (k := 0) tx_InvalidSize hP c.n_super⟩ (fun s a u I => b s [a, u] I rfl) c.g_InvalidSize rfl hr hg ha hall hks hpl
theorem Fx.a_NoMaker (c : Fx K h mg) : ∃ fd, FunI K FILE x_NoMaker fd := c.says.x 17 (d := x_NoMaker) rfl
theorem Fx.t_NoMaker (c : Fx K h mg) : XC K (He.ga K "NoMaker") := c.a_NoMaker.choose_spec.T
theorem Fx.l_NoMaker_name (c : Fx K h mg) : PySem.W.findIn K (.ref (He.ga K "NoMaker")) "name" = some none := (c.a_NoMaker.choose_spec.fl "name" (by decide)).2
theorem tx_NoMaker : TxD x_NoMaker := ⟨⟨_, _, _, _, _, _, _, _, _, _, _, rfl, (.cons FldSts.nil), rfl, rfl, fun _ _ _ _ => rfl⟩, NdefX.nscope_by (by kernel_rfl), by kernel_rfl, by decide, by decide⟩
theorem Fx.e_NoMaker (c : Fx K h mg) {X : L2.Cx} (hK : X.K = K) (hm : X.mg = mg) (hP : XP X.prog FILE) : ExK X "NoMaker" ["name"] 1 [] := by
  subst hK hm
  obtain ⟨fd, A⟩ := c.a_NoMaker
  obtain ⟨its, _, b⟩ := A.binds (fun us => ⟨us, []⟩) 2 (fun us _ => us) (fun _ kV doc pm an cdv ct cc us l1 => match us, l1 with | [_, _], _ => rfl) (fun ne => absurd rfl ne)
  exact ExK.of A tx_NoMaker hP c.n_super c.g_NoMaker rfl (fun s us I hl => by
    rw [List.append_nil] at hl ⊢
    exact b s us I hl)
theorem Fx.s_NoMaker (c : Fx K h mg) {X : L2.Cx} {W : WX} {e : Expr} {fa : PL.Env → PL.Res Rv} {p pos kpos : Pos} (hK : X.K = K) (hm : X.mg = mg) (hP : XP X.prog FILE) (hr : Room 2 X.A) (hg : Gl X "NoMaker") (ha : SE X W e fa)
    (hall : (backToKw pos (keywordEach [⟨some "name", e, kpos⟩] X.env)).all (·.1.isSome) = true := by rfl) (hks : (backToKw pos (keywordEach [⟨some "name", e, kpos⟩] X.env)).filterMap (·.1) = [("name" : Str)] := by rfl)
    (hpl : ((backTo pos (starEach [] X.env)).any (·.1) || (backToKw pos (keywordEach [⟨some "name", e, kpos⟩] X.env)).any (·.1.isNone)) = false := by rfl) : SM X W (.Call (.Name "NoMaker" p) [] [⟨some "name", e, kpos⟩] pos) (eMk "NoMaker" ["name"] [] [fa]) := by
  subst hK hm
  obtain ⟨fd, A⟩ := c.a_NoMaker
  obtain ⟨its, _, b⟩ := A.binds (fun us => ⟨[us.headD .none], [("name", us.getLastD .none)]⟩) 2 (fun us _ => us) (fun _ kV doc pm an cdv ct cc us l1 => match us, l1 with | [_, _], _ => rfl) (fun ne => absurd rfl ne)
  exact SM.kw1 ⟨A.T, A.iC, A.tI, A.fn (k := 0) tx_NoMaker hP c.n_super⟩ (fun s a u I => b s [a, u] I rfl) c.g_NoMaker rfl hr hg ha hall hks hpl
theorem Fx.a_NoRule (c : Fx K h mg) : ∃ fd, FunI K FILE x_NoRule fd := c.says.x 18 (d := x_NoRule) rfl
theorem Fx.t_NoRule (c : Fx K h mg) : XC K (He.ga K "NoRule") := c.a_NoRule.choose_spec.T
theorem Fx.l_NoRule_number (c : Fx K h mg) : PySem.W.findIn K (.ref (He.ga K "NoRule")) "number" = some none := (c.a_NoRule.choose_spec.fl "number" (by decide)).2
theorem tx_NoRule : TxD x_NoRule := ⟨⟨_, _, _, _, _, _, _, _, _, _, _, rfl, (.cons FldSts.nil), rfl, rfl, fun _ _ _ _ => rfl⟩, NdefX.nscope_by (by kernel_rfl), by kernel_rfl, by decide, by decide⟩
theorem Fx.e_NoRule (c : Fx K h mg) {X : L2.Cx} (hK : X.K = K) (hm : X.mg = mg) (hP : XP X.prog FILE) : ExK X "NoRule" ["number"] 1 [] := by
  subst hK hm
  obtain ⟨fd, A⟩ := c.a_NoRule
  obtain ⟨its, _, b⟩ := A.binds (fun us => ⟨us, []⟩) 2 (fun us _ => us) (fun _ kV doc pm an cdv ct cc us l1 => match us, l1 with | [_, _], _ => rfl) (fun ne => absurd rfl ne)
  exact ExK.of A tx_NoRule hP c.n_super c.g_NoRule rfl (fun s us I hl => by
    rw [List.append_nil] at hl ⊢
    exact b s us I hl)
theorem Fx.s_NoRule (c : Fx K h mg) {X : L2.Cx} {W : WX} {e : Expr} {fa : PL.Env → PL.Res Rv} {p pos kpos : Pos} (hK : X.K = K) (hm : X.mg = mg) (hP : XP X.prog FILE) (hr : Room 2 X.A) (hg : Gl X "NoRule") (ha : SE X W e fa)
    (hall : (backToKw pos (keywordEach [⟨some "number", e, kpos⟩] X.env)).all (·.1.isSome) = true := by rfl) (hks : (backToKw pos (keywordEach [⟨some "number", e, kpos⟩] X.env)).filterMap (·.1) = [("number" : Str)] := by rfl)
    (hpl : ((backTo pos (starEach [] X.env)).any (·.1) || (backToKw pos (keywordEach [⟨some "number", e, kpos⟩] X.env)).any (·.1.isNone)) = false := by rfl) : SM X W (.Call (.Name "NoRule" p) [] [⟨some "number", e, kpos⟩] pos) (eMk "NoRule" ["number"] [] [fa]) := by
  subst hK hm
  obtain ⟨fd, A⟩ := c.a_NoRule
  obtain ⟨its, _, b⟩ := A.binds (fun us => ⟨[us.headD .none], [("number", us.getLastD .none)]⟩) 2 (fun us _ => us) (fun _ kV doc pm an cdv ct cc us l1 => match us, l1 with | [_, _], _ => rfl) (fun ne => absurd rfl ne)
  exact SM.kw1 ⟨A.T, A.iC, A.tI, A.fn (k := 0) tx_NoRule hP c.n_super⟩ (fun s a u I => b s [a, u] I rfl) c.g_NoRule rfl hr hg ha hall hks hpl
theorem Fx.a_NotCalm (c : Fx K h mg) : ∃ fd, FunI K FILE x_NotCalm fd := c.says.x 19 (d := x_NotCalm) rfl
theorem Fx.t_NotCalm (c : Fx K h mg) : XC K (He.ga K "NotCalm") := c.a_NotCalm.choose_spec.T
theorem Fx.l_NotCalm_right (c : Fx K h mg) : PySem.W.findIn K (.ref (He.ga K "NotCalm")) "right" = some none := (c.a_NotCalm.choose_spec.fl "right" (by decide)).2
theorem Fx.l_NotCalm_left (c : Fx K h mg) : PySem.W.findIn K (.ref (He.ga K "NotCalm")) "left" = some none := (c.a_NotCalm.choose_spec.fl "left" (by decide)).2
theorem Fx.l_NotCalm_row (c : Fx K h mg) : PySem.W.findIn K (.ref (He.ga K "NotCalm")) "row" = some none := (c.a_NotCalm.choose_spec.fl "row" (by decide)).2
theorem tx_NotCalm : TxD x_NotCalm := ⟨⟨_, _, _, _, _, _, _, _, _, _, _, rfl, (.cons (.cons (.cons FldSts.nil))), rfl, rfl, fun _ _ _ _ => rfl⟩, NdefX.nscope_by (by kernel_rfl), by kernel_rfl, by decide, by decide⟩
theorem Fx.e_NotCalm (c : Fx K h mg) {X : L2.Cx} (hK : X.K = K) (hm : X.mg = mg) (hP : XP X.prog FILE) : ExK X "NotCalm" ["right", "left", "row"] 1 [] := by
  subst hK hm
  obtain ⟨fd, A⟩ := c.a_NotCalm
  obtain ⟨its, _, b⟩ := A.binds (fun us => ⟨us, []⟩) 4 (fun us _ => us) (fun _ kV doc pm an cdv ct cc us l1 => match us, l1 with | [_, _, _, _], _ => rfl) (fun ne => absurd rfl ne)
  exact ExK.of A tx_NotCalm hP c.n_super c.g_NotCalm rfl (fun s us I hl => by
    rw [List.append_nil] at hl ⊢
    exact b s us I hl)
theorem Fx.a_InvalidCommand (c : Fx K h mg) : ∃ fd, FunI K FILE x_InvalidCommand fd := c.says.x 20 (d := x_InvalidCommand) rfl
theorem Fx.t_InvalidCommand (c : Fx K h mg) : XC K (He.ga K "InvalidCommand") := c.a_InvalidCommand.choose_spec.T
theorem tx_InvalidCommand : TxD x_InvalidCommand := ⟨⟨_, _, _, _, _, _, _, _, _, _, _, rfl, FldSts.nil, rfl, rfl, fun _ _ _ _ => rfl⟩, NdefX.nscope_by (by kernel_rfl), by kernel_rfl, by decide, by decide⟩
theorem Fx.e_InvalidCommand (c : Fx K h mg) {X : L2.Cx} (hK : X.K = K) (hm : X.mg = mg) (hP : XP X.prog FILE) : ExK X "InvalidCommand" [] 1 [] := by
  subst hK hm
  obtain ⟨fd, A⟩ := c.a_InvalidCommand
  obtain ⟨its, _, b⟩ := A.binds (fun us => ⟨us, []⟩) 1 (fun us _ => us) (fun _ kV doc pm an cdv ct cc us l1 => match us, l1 with | [_], _ => rfl) (fun ne => absurd rfl ne)
  exact ExK.of A tx_InvalidCommand hP c.n_super c.g_InvalidCommand rfl (fun s us I hl => by
    rw [List.append_nil] at hl ⊢
    exact b s us I hl)
theorem Fx.f_law_box (c : Fx K h mg) : mg "_law_box" = some (.ref (He.fAd K ("_law_box", none))) := He.glo_ok c.kin c.ns (c.says.d.fact 0 (f := .glo "_law_box") rfl)
theorem Fx.f_law_take (c : Fx K h mg) : mg "_law_take" = some (.ref (He.fAd K ("_law_take", none))) := He.glo_ok c.kin c.ns (c.says.d.fact 1 (f := .glo "_law_take") rfl)
theorem Fx.f_law_pick (c : Fx K h mg) : mg "_law_pick" = some (.ref (He.fAd K ("_law_pick", none))) := He.glo_ok c.kin c.ns (c.says.d.fact 2 (f := .glo "_law_pick") rfl)
theorem Fx.f_law_raise (c : Fx K h mg) : mg "_law_raise" = some (.ref (He.fAd K ("_law_raise", none))) := He.glo_ok c.kin c.ns (c.says.d.fact 3 (f := .glo "_law_raise") rfl)
theorem Fx.f_law_caught (c : Fx K h mg) : mg "_law_caught" = some (.ref (He.fAd K ("_law_caught", none))) := He.glo_ok c.kin c.ns (c.says.d.fact 4 (f := .glo "_law_caught") rfl)
theorem Fx.f_law_is_base (c : Fx K h mg) : mg "_law_is_base" = some (.ref (He.fAd K ("_law_is_base", none))) := He.glo_ok c.kin c.ns (c.says.d.fact 5 (f := .glo "_law_is_base") rfl)
theorem Fx.f_law (c : Fx K h mg) : mg "law" = some (.ref (He.fAd K ("law", none))) := He.glo_ok c.kin c.ns (c.says.d.fact 6 (f := .glo "law") rfl)
theorem Fx.n_abs (c : Fx K h mg) : mg "abs" = none := He.free_ok c.kin c.ns (c.says.d.fact 7 (f := .free "abs") rfl)
theorem Fx.n_int (c : Fx K h mg) : mg "int" = none := He.free_ok c.kin c.ns (c.says.d.fact 8 (f := .free "int") rfl)
theorem Fx.n_len (c : Fx K h mg) : mg "len" = none := He.free_ok c.kin c.ns (c.says.d.fact 9 (f := .free "len") rfl)
theorem Fx.n_range (c : Fx K h mg) : mg "range" = none := He.free_ok c.kin c.ns (c.says.d.fact 10 (f := .free "range") rfl)
abbrev Ok_law_box (P : Program) (w : World) (K : PySem.W.Frag) (mg : Str → Option Value) (base : Heap) (fd : FuncData) : Prop := FunD K "_law_box" "_law_box" (defArgs (top 24)) (defBody (top 24)) (defScope (top 24)) [] [] (He.fAd K ("_law_box", none)) fd ∧ FnOk P w K mg base (CX P w) 1 (He.fAd K ("_law_box", none)) fd ["script", "k"] (spP K 2 G_law_box)
theorem sc_law_box : FnScope ["script", "k", "cell"] ["script", "k"] (defScope (top 24)) := ⟨by kernel_rfl, by kernel_rfl, by kernel_rfl, by decide, by rfl, by decide +kernel, by decide +kernel⟩
theorem ok_law_box (c : Fx K h mg) (hP : XP P FILE) : ∃ fd, Ok_law_box P w K mg base fd := by
  have n_abs := c.n_abs
  have n_int := c.n_int
  have n_len := c.n_len
  obtain ⟨fd, F⟩ := c.says.d.def_ 0 (d := d_law_box) (by rfl)
  refine ⟨fd, F, def_ok F sc_law_box fun cdv A outer s H E hr => ?_⟩
  have hN := sc_law_box.nd
  unfold B_law_box
  exact (SSs.cons (SS.set hN rfl (by first | exact .inl rfl | exact .inr rfl) (SE.plus (SE.times SE.int (SE.var rfl (by first | exact .inl rfl | exact .inr (.inl rfl) | exact .inr (.inr rfl)))) SE.int))
    (SSs.cons (SS.ife (ST.cmp op_lt o2_lt (SE.var rfl (by first | exact .inl rfl | exact .inr (.inl rfl) | exact .inr (.inr rfl))) (SE.blt call_len cb_len rfl n_len boot_len (SR.cons (SE.var rfl (by first | exact .inl rfl | exact .inr (.inl rfl) | exact .inr (.inr rfl))) SR.nil)) (by first | exact nobehind _ (by decide) (by decide) | rfl)) (SSs.one (SS.set hN rfl (by first | exact .inl rfl | exact .inr rfl) (SE.blt call_abs cb_abs rfl n_abs boot_abs (SR.cons (SE.or2 (SE.ix (SE.var rfl (by first | exact .inl rfl | exact .inr (.inl rfl) | exact .inr (.inr rfl))) (SE.var rfl (by first | exact .inl rfl | exact .inr (.inl rfl) | exact .inr (.inr rfl)))  (fun _ _ => rfl)) (SE.ixd (u1 hr) (SE.var rfl (by first | exact .inl rfl | exact .inr (.inl rfl) | exact .inr (.inr rfl))) (SE.var rfl (by first | exact .inl rfl | exact .inr (.inl rfl) | exact .inr (.inr rfl)))  (fun _ _ => rfl))) SR.nil)))) (SSs.one (SS.ife (ST.cmp op_gt o2_gt (SE.blt call_len cb_len rfl n_len boot_len (SR.cons (SE.var rfl (by first | exact .inl rfl | exact .inr (.inl rfl) | exact .inr (.inr rfl))) SR.nil)) SE.int (by first | exact nobehind _ (by decide) (by decide) | rfl)) (SSs.one (SS.set hN rfl (by first | exact .inl rfl | exact .inr rfl) (SE.plus (SE.var rfl (by first | exact .inl rfl | exact .inr (.inl rfl) | exact .inr (.inr rfl))) (SE.times (SE.op op_mod o2_mod (SE.bty call_int1 cb_int rfl n_int boot_int (SR.cons (SE.blt call_abs cb_abs rfl n_abs boot_abs (SR.cons (SE.or2 (SE.ix (SE.var rfl (by first | exact .inl rfl | exact .inr (.inl rfl) | exact .inr (.inr rfl))) (SE.op op_mod o2_mod (SE.bty call_int1 cb_int rfl n_int boot_int (SR.cons (SE.var rfl (by first | exact .inl rfl | exact .inr (.inl rfl) | exact .inr (.inr rfl))) SR.nil)) (SE.blt call_len cb_len rfl n_len boot_len (SR.cons (SE.var rfl (by first | exact .inl rfl | exact .inr (.inl rfl) | exact .inr (.inr rfl))) SR.nil)))  (fun _ _ => rfl)) (SE.ixd (u1 hr) (SE.var rfl (by first | exact .inl rfl | exact .inr (.inl rfl) | exact .inr (.inr rfl))) (SE.op op_mod o2_mod (SE.bty call_int1 cb_int rfl n_int boot_int (SR.cons (SE.var rfl (by first | exact .inl rfl | exact .inr (.inl rfl) | exact .inr (.inr rfl))) SR.nil)) (SE.blt call_len cb_len rfl n_len boot_len (SR.cons (SE.var rfl (by first | exact .inl rfl | exact .inr (.inl rfl) | exact .inr (.inr rfl))) SR.nil)))  (fun _ _ => rfl))) SR.nil)) SR.nil)) SE.int) SE.int)))) SSs.nil)))
    (SSs.one (SS.ret (SE.lst (SA.cons (SE.or2 (SE.ix (SE.lst (SA.cons SE.int (SA.cons (SE.var rfl (by first | exact .inl rfl | exact .inr (.inl rfl) | exact .inr (.inr rfl))) SA.nil))) (SE.bty call_int1 cb_int rfl n_int boot_int (SR.cons (SE.cmp op_ge o2_ge (SE.var rfl (by first | exact .inl rfl | exact .inr (.inl rfl) | exact .inr (.inr rfl))) (SE.op op_pow o2_pow SE.int SE.int) (by first | exact nobehind _ (by decide) (by decide) | rfl)) SR.nil))  (fun _ _ => rfl)) (SE.ixd (u1 hr) (SE.lst (SA.cons SE.int (SA.cons (SE.var rfl (by first | exact .inl rfl | exact .inr (.inl rfl) | exact .inr (.inr rfl))) SA.nil))) (SE.bty call_int1 cb_int rfl n_int boot_int (SR.cons (SE.cmp op_ge o2_ge (SE.var rfl (by first | exact .inl rfl | exact .inr (.inl rfl) | exact .inr (.inr rfl))) (SE.op op_pow o2_pow SE.int SE.int) (by first | exact nobehind _ (by decide) (by decide) | rfl)) SR.nil))  (fun _ _ => rfl))) (SA.cons (SE.plus (SE.op op_mod o2_mod (SE.bty call_int1 cb_int rfl n_int boot_int (SR.cons (SE.plus (SE.times (SE.op op_mod o2_mod (SE.bty call_int1 cb_int rfl n_int boot_int (SR.cons (SE.var rfl (by first | exact .inl rfl | exact .inr (.inl rfl) | exact .inr (.inr rfl))) SR.nil)) SE.int) SE.int) (SE.times SE.int (SE.var rfl (by first | exact .inl rfl | exact .inr (.inl rfl) | exact .inr (.inr rfl))))) SR.nil)) SE.int) SE.int) (SA.cons SE.int SA.nil))))))))
abbrev Ok_law_take (P : Program) (w : World) (K : PySem.W.Frag) (mg : Str → Option Value) (base : Heap) (fd : FuncData) : Prop := FunD K "_law_take" "_law_take" (defArgs (top 25)) (defBody (top 25)) (defScope (top 25)) [] [] (He.fAd K ("_law_take", none)) fd ∧ FnOk P w K mg base (CX P w) 1 (He.fAd K ("_law_take", none)) fd ["box", "many"] (spP K 2 G_law_take)
theorem sc_law_take : FnScope ["box", "many", "raw", "digit"] ["box", "many"] (defScope (top 25)) := ⟨by kernel_rfl, by kernel_rfl, by kernel_rfl, by decide, by rfl, by decide +kernel, by decide +kernel⟩
theorem ok_law_take (c : Fx K h mg) (hP : XP P FILE) : ∃ fd, Ok_law_take P w K mg base fd := by
  have n_int := c.n_int
  obtain ⟨fd, F⟩ := c.says.d.def_ 1 (d := d_law_take) (by rfl)
  refine ⟨fd, F, def_ok F sc_law_take fun cdv A outer s H E hr => ?_⟩
  have hN := sc_law_take.nd
  unfold B_law_take
  exact (SSs.cons (SS.ife (ST.cmp op_gt o2_gt (SE.or2 (SE.ix (SE.var rfl (by first | exact .inl rfl | exact .inr (.inl rfl) | exact .inr (.inr rfl))) SE.int  (fun _ _ => rfl)) (SE.ixd (u1 hr) (SE.var rfl (by first | exact .inl rfl | exact .inr (.inl rfl) | exact .inr (.inr rfl))) SE.int  (fun _ _ => rfl))) SE.int (by first | exact nobehind _ (by decide) (by decide) | rfl)) (SSs.cons (SS.set hN rfl (by first | exact .inl rfl | exact .inr rfl) (SE.op op_mod o2_mod (SE.bty call_int1 cb_int rfl n_int boot_int (SR.cons (SE.or2 (SE.ix (SE.var rfl (by first | exact .inl rfl | exact .inr (.inl rfl) | exact .inr (.inr rfl))) SE.int  (fun _ _ => rfl)) (SE.ixd (u1 hr) (SE.var rfl (by first | exact .inl rfl | exact .inr (.inl rfl) | exact .inr (.inr rfl))) SE.int  (fun _ _ => rfl))) SR.nil)) (SE.var rfl (by first | exact .inl rfl | exact .inr (.inl rfl) | exact .inr (.inr rfl)))))
    (SSs.cons (SS.or2 (SS.sub (SE.var rfl (by first | exact .inl rfl | exact .inr (.inl rfl) | exact .inr (.inr rfl))) SE.int (SE.op op_fdivW o2_div (SE.or2 (SE.ix (SE.var rfl (by first | exact .inl rfl | exact .inr (.inl rfl) | exact .inr (.inr rfl))) SE.int  (fun _ _ => rfl)) (SE.ixd (u1 hr) (SE.var rfl (by first | exact .inl rfl | exact .inr (.inl rfl) | exact .inr (.inr rfl))) SE.int  (fun _ _ => rfl))) (SE.var rfl (by first | exact .inl rfl | exact .inr (.inl rfl) | exact .inr (.inr rfl))))) (SS.dput (u1 hr) (SE.var rfl (by first | exact .inl rfl | exact .inr (.inl rfl) | exact .inr (.inr rfl))) SE.int (SE.op op_fdivW o2_div (SE.or2 (SE.ix (SE.var rfl (by first | exact .inl rfl | exact .inr (.inl rfl) | exact .inr (.inr rfl))) SE.int  (fun _ _ => rfl)) (SE.ixd (u1 hr) (SE.var rfl (by first | exact .inl rfl | exact .inr (.inl rfl) | exact .inr (.inr rfl))) SE.int  (fun _ _ => rfl))) (SE.var rfl (by first | exact .inl rfl | exact .inr (.inl rfl) | exact .inr (.inr rfl))))))
    (SSs.one (SS.ret (SE.var rfl (by first | exact .inl rfl | exact .inr (.inl rfl) | exact .inr (.inr rfl))))))) SSs.nil)
    (SSs.cons (SS.or2 (SS.sub (SE.var rfl (by first | exact .inl rfl | exact .inr (.inl rfl) | exact .inr (.inr rfl))) SE.int (SE.plus (SE.or2 (SE.ix (SE.var rfl (by first | exact .inl rfl | exact .inr (.inl rfl) | exact .inr (.inr rfl))) SE.int  (fun _ _ => rfl)) (SE.ixd (u1 hr) (SE.var rfl (by first | exact .inl rfl | exact .inr (.inl rfl) | exact .inr (.inr rfl))) SE.int  (fun _ _ => rfl))) SE.int)) (SS.dput (u1 hr) (SE.var rfl (by first | exact .inl rfl | exact .inr (.inl rfl) | exact .inr (.inr rfl))) SE.int (SE.plus (SE.or2 (SE.ix (SE.var rfl (by first | exact .inl rfl | exact .inr (.inl rfl) | exact .inr (.inr rfl))) SE.int  (fun _ _ => rfl)) (SE.ixd (u1 hr) (SE.var rfl (by first | exact .inl rfl | exact .inr (.inl rfl) | exact .inr (.inr rfl))) SE.int  (fun _ _ => rfl))) SE.int)))
    (SSs.cons (SS.set hN rfl (by first | exact .inl rfl | exact .inr rfl) (SE.op op_mod o2_mod (SE.bty call_int1 cb_int rfl n_int boot_int (SR.cons (SE.plus (SE.times (SE.plus (SE.or2 (SE.ix (SE.var rfl (by first | exact .inl rfl | exact .inr (.inl rfl) | exact .inr (.inr rfl))) SE.int  (fun _ _ => rfl)) (SE.ixd (u1 hr) (SE.var rfl (by first | exact .inl rfl | exact .inr (.inl rfl) | exact .inr (.inr rfl))) SE.int  (fun _ _ => rfl))) (SE.times SE.int (SE.or2 (SE.ix (SE.var rfl (by first | exact .inl rfl | exact .inr (.inl rfl) | exact .inr (.inr rfl))) SE.int  (fun _ _ => rfl)) (SE.ixd (u1 hr) (SE.var rfl (by first | exact .inl rfl | exact .inr (.inl rfl) | exact .inr (.inr rfl))) SE.int  (fun _ _ => rfl))))) SE.int) SE.int) SR.nil)) SE.int))
    (SSs.cons (SS.or2 (SS.sub (SE.var rfl (by first | exact .inl rfl | exact .inr (.inl rfl) | exact .inr (.inr rfl))) SE.int (SE.plus (SE.op op_mod o2_mod (SE.bty call_int1 cb_int rfl n_int boot_int (SR.cons (SE.plus (SE.times (SE.var rfl (by first | exact .inl rfl | exact .inr (.inl rfl) | exact .inr (.inr rfl))) SE.int) SE.int) SR.nil)) SE.int) SE.int)) (SS.dput (u1 hr) (SE.var rfl (by first | exact .inl rfl | exact .inr (.inl rfl) | exact .inr (.inr rfl))) SE.int (SE.plus (SE.op op_mod o2_mod (SE.bty call_int1 cb_int rfl n_int boot_int (SR.cons (SE.plus (SE.times (SE.var rfl (by first | exact .inl rfl | exact .inr (.inl rfl) | exact .inr (.inr rfl))) SE.int) SE.int) SR.nil)) SE.int) SE.int)))
    (SSs.one (SS.ret (SE.op op_mod o2_mod (SE.bty call_int1 cb_int rfl n_int boot_int (SR.cons (SE.op op_fdivW o2_div (SE.plus (SE.times (SE.var rfl (by first | exact .inl rfl | exact .inr (.inl rfl) | exact .inr (.inr rfl))) SE.int) (SE.or2 (SE.ix (SE.var rfl (by first | exact .inl rfl | exact .inr (.inl rfl) | exact .inr (.inr rfl))) SE.int  (fun _ _ => rfl)) (SE.ixd (u1 hr) (SE.var rfl (by first | exact .inl rfl | exact .inr (.inl rfl) | exact .inr (.inr rfl))) SE.int  (fun _ _ => rfl)))) SE.int) SR.nil)) (SE.var rfl (by first | exact .inl rfl | exact .inr (.inl rfl) | exact .inr (.inr rfl))))))))))
abbrev Ok_law_pick (P : Program) (w : World) (K : PySem.W.Frag) (mg : Str → Option Value) (base : Heap) (fd : FuncData) : Prop := FunD K "_law_pick" "_law_pick" (defArgs (top 26)) (defBody (top 26)) (defScope (top 26)) [] [] (He.fAd K ("_law_pick", none)) fd ∧ FnOk P w K mg base (CX P w) 2 (He.fAd K ("_law_pick", none)) fd ["box", "some"] (spP K 2 G_law_pick)
theorem sc_law_pick : FnScope ["box", "some"] ["box", "some"] (defScope (top 26)) := ⟨by kernel_rfl, by kernel_rfl, by kernel_rfl, by decide, by rfl, by decide +kernel, by decide +kernel⟩
theorem ok_law_pick (c : Fx K h mg) (hP : XP P FILE) : ∃ fd, Ok_law_pick P w K mg base fd := by
  obtain ⟨fd_law_take, F_law_take, k_law_take⟩ := ok_law_take (P := P) (w := w) (base := base) c hP
  have f_law_take_kp := F_law_take.kp
  have b_law_take : Binds K fd_law_take ["box", "many"] [] := F_law_take.bindsN fun _ _ _ _ _ _ us hl => match us, hl with | [_, _], _ => rfl
  have f_law_take := c.f_law_take
  have n_len := c.n_len
  obtain ⟨fd, F⟩ := c.says.d.def_ 2 (d := d_law_pick) (by rfl)
  refine ⟨fd, F, def_ok F sc_law_pick fun cdv A outer s H E hr => ?_⟩
  have hN := sc_law_pick.nd
  unfold B_law_pick
  exact (SSs.one (SS.ret (SE.or2 (SE.ix (SE.var rfl (by first | exact .inl rfl | exact .inr (.inl rfl) | exact .inr (.inr rfl))) (SE.call (k_law_take.mono (by decide)) hr rfl f_law_take f_law_take_kp b_law_take (takes_of rfl rfl rfl rfl) (SR.cons (SE.var rfl (by first | exact .inl rfl | exact .inr (.inl rfl) | exact .inr (.inr rfl))) (SR.cons (SE.blt call_len cb_len rfl n_len boot_len (SR.cons (SE.var rfl (by first | exact .inl rfl | exact .inr (.inl rfl) | exact .inr (.inr rfl))) SR.nil)) SR.nil)))  (fun _ _ => rfl)) (SE.ixd (u1 hr) (SE.var rfl (by first | exact .inl rfl | exact .inr (.inl rfl) | exact .inr (.inr rfl))) (SE.call (k_law_take.mono (by decide)) hr rfl f_law_take f_law_take_kp b_law_take (takes_of rfl rfl rfl rfl) (SR.cons (SE.var rfl (by first | exact .inl rfl | exact .inr (.inl rfl) | exact .inr (.inr rfl))) (SR.cons (SE.blt call_len cb_len rfl n_len boot_len (SR.cons (SE.var rfl (by first | exact .inl rfl | exact .inr (.inl rfl) | exact .inr (.inr rfl))) SR.nil)) SR.nil)))  (fun _ _ => rfl)))))
abbrev Ok_law_raise (P : Program) (w : World) (K : PySem.W.Frag) (mg : Str → Option Value) (base : Heap) (fd : FuncData) : Prop := FunD K "_law_raise" "_law_raise" (defArgs (top 27)) (defBody (top 27)) (defScope (top 27)) [] [] (He.fAd K ("_law_raise", none)) fd ∧ FnOk P w K mg base (CX P w) 3 (He.fAd K ("_law_raise", none)) fd ["number", "thing"] (spP K 2 G_law_raise)
theorem sc_law_raise : FnScope ["number", "thing"] ["number", "thing"] (defScope (top 27)) := ⟨by kernel_rfl, by kernel_rfl, by kernel_rfl, by decide, by rfl, by decide +kernel, by decide +kernel⟩
theorem ok_law_raise (c : Fx K h mg) (hP : XP P FILE) : ∃ fd, Ok_law_raise P w K mg base fd := by
  obtain ⟨fd, F⟩ := c.says.d.def_ 3 (d := d_law_raise) (by rfl)
  refine ⟨fd, F, def_ok F sc_law_raise fun cdv A outer s H E hr => ?_⟩
  have hN := sc_law_raise.nd
  unfold B_law_raise
  exact (SSs.cons (SS.ife (ST.cmp (op_eqG (u64 hr)) o2_eq (SE.var rfl (by first | exact .inl rfl | exact .inr (.inl rfl) | exact .inr (.inr rfl))) SE.int (by first | exact nobehind _ (by decide) (by decide) | rfl)) (SSs.one (SS.raise rfl (takes_of rfl rfl rfl rfl) (SM.own (c.e_InvalidText rfl rfl hP) (hr.mono (by decide)) rfl (takes_of rfl rfl rfl rfl) (SA.cons (SE.var rfl (by first | exact .inl rfl | exact .inr (.inl rfl) | exact .inr (.inr rfl))) SA.nil)))) (SSs.one (SS.ife (ST.cmp (op_eqG (u64 hr)) o2_eq (SE.var rfl (by first | exact .inl rfl | exact .inr (.inl rfl) | exact .inr (.inr rfl))) SE.int (by first | exact nobehind _ (by decide) (by decide) | rfl)) (SSs.one (SS.raise rfl (takes_of rfl rfl rfl rfl) (SM.own (c.e_InvalidSaying rfl rfl hP) (hr.mono (by decide)) rfl (takes_of rfl rfl rfl rfl) (SA.cons (SE.var rfl (by first | exact .inl rfl | exact .inr (.inl rfl) | exact .inr (.inr rfl))) SA.nil)))) (SSs.one (SS.ife (ST.cmp (op_eqG (u64 hr)) o2_eq (SE.var rfl (by first | exact .inl rfl | exact .inr (.inl rfl) | exact .inr (.inr rfl))) SE.int (by first | exact nobehind _ (by decide) (by decide) | rfl)) (SSs.one (SS.raise rfl (takes_of rfl rfl rfl rfl) (SM.own (c.e_InvalidSheet rfl rfl hP) (hr.mono (by decide)) rfl (takes_of rfl rfl rfl rfl) (SA.cons (SE.var rfl (by first | exact .inl rfl | exact .inr (.inl rfl) | exact .inr (.inr rfl))) SA.nil)))) (SSs.one (SS.ife (ST.cmp (op_eqG (u64 hr)) o2_eq (SE.var rfl (by first | exact .inl rfl | exact .inr (.inl rfl) | exact .inr (.inr rfl))) SE.int (by first | exact nobehind _ (by decide) (by decide) | rfl)) (SSs.one (SS.raise rfl (takes_of rfl rfl rfl rfl) (SM.own (c.e_InvalidFilling rfl rfl hP) (hr.mono (by decide)) rfl (takes_of rfl rfl rfl rfl) (SA.cons (SE.var rfl (by first | exact .inl rfl | exact .inr (.inl rfl) | exact .inr (.inr rfl))) SA.nil)))) (SSs.one (SS.ife (ST.cmp (op_eqG (u64 hr)) o2_eq (SE.var rfl (by first | exact .inl rfl | exact .inr (.inl rfl) | exact .inr (.inr rfl))) SE.int (by first | exact nobehind _ (by decide) (by decide) | rfl)) (SSs.one (SS.raise rfl (takes_of rfl rfl rfl rfl) (SM.own (c.e_InvalidMakers rfl rfl hP) (hr.mono (by decide)) rfl (takes_of rfl rfl rfl rfl) (SA.cons (SE.var rfl (by first | exact .inl rfl | exact .inr (.inl rfl) | exact .inr (.inr rfl))) SA.nil)))) (SSs.one (SS.ife (ST.cmp (op_eqG (u64 hr)) o2_eq (SE.var rfl (by first | exact .inl rfl | exact .inr (.inl rfl) | exact .inr (.inr rfl))) SE.int (by first | exact nobehind _ (by decide) (by decide) | rfl)) (SSs.one (SS.raise rfl (takes_of rfl rfl rfl rfl) (SM.own (c.e_InvalidRules rfl rfl hP) (hr.mono (by decide)) rfl (takes_of rfl rfl rfl rfl) (SA.cons (SE.var rfl (by first | exact .inl rfl | exact .inr (.inl rfl) | exact .inr (.inr rfl))) SA.nil)))) (SSs.one (SS.ife (ST.cmp (op_eqG (u64 hr)) o2_eq (SE.var rfl (by first | exact .inl rfl | exact .inr (.inl rfl) | exact .inr (.inr rfl))) SE.int (by first | exact nobehind _ (by decide) (by decide) | rfl)) (SSs.one (SS.raise rfl (takes_of rfl rfl rfl rfl) (SM.own (c.e_InvalidBook rfl rfl hP) (hr.mono (by decide)) rfl (takes_of rfl rfl rfl rfl) (SA.cons (SE.var rfl (by first | exact .inl rfl | exact .inr (.inl rfl) | exact .inr (.inr rfl))) SA.nil)))) (SSs.one (SS.ife (ST.cmp (op_eqG (u64 hr)) o2_eq (SE.var rfl (by first | exact .inl rfl | exact .inr (.inl rfl) | exact .inr (.inr rfl))) SE.int (by first | exact nobehind _ (by decide) (by decide) | rfl)) (SSs.one (SS.raise rfl (takes_of rfl rfl rfl rfl) (SM.own (c.e_InvalidRow rfl rfl hP) (hr.mono (by decide)) rfl (takes_of rfl rfl rfl rfl) (SA.cons (SE.var rfl (by first | exact .inl rfl | exact .inr (.inl rfl) | exact .inr (.inr rfl))) SA.nil)))) (SSs.one (SS.ife (ST.cmp (op_eqG (u64 hr)) o2_eq (SE.var rfl (by first | exact .inl rfl | exact .inr (.inl rfl) | exact .inr (.inr rfl))) SE.int (by first | exact nobehind _ (by decide) (by decide) | rfl)) (SSs.one (SS.raise rfl (takes_of rfl rfl rfl rfl) (SM.own (c.e_InvalidPremises rfl rfl hP) (hr.mono (by decide)) rfl (takes_of rfl rfl rfl rfl) (SA.cons (SE.var rfl (by first | exact .inl rfl | exact .inr (.inl rfl) | exact .inr (.inr rfl))) SA.nil)))) (SSs.one (SS.ife (ST.cmp (op_eqG (u64 hr)) o2_eq (SE.var rfl (by first | exact .inl rfl | exact .inr (.inl rfl) | exact .inr (.inr rfl))) SE.int (by first | exact nobehind _ (by decide) (by decide) | rfl)) (SSs.one (SS.raise rfl (takes_of rfl rfl rfl rfl) (SM.own (c.e_InvalidProof rfl rfl hP) (hr.mono (by decide)) rfl (takes_of rfl rfl rfl rfl) (SA.cons (SE.var rfl (by first | exact .inl rfl | exact .inr (.inl rfl) | exact .inr (.inr rfl))) SA.nil)))) (SSs.one (SS.ife (ST.cmp (op_eqG (u64 hr)) o2_eq (SE.var rfl (by first | exact .inl rfl | exact .inr (.inl rfl) | exact .inr (.inr rfl))) SE.int (by first | exact nobehind _ (by decide) (by decide) | rfl)) (SSs.one (SS.raise rfl (takes_of rfl rfl rfl rfl) (SM.own (c.e_InvalidFacts rfl rfl hP) (hr.mono (by decide)) rfl (takes_of rfl rfl rfl rfl) (SA.cons (SE.var rfl (by first | exact .inl rfl | exact .inr (.inl rfl) | exact .inr (.inr rfl))) SA.nil)))) (SSs.one (SS.ife (ST.cmp (op_eqG (u64 hr)) o2_eq (SE.var rfl (by first | exact .inl rfl | exact .inr (.inl rfl) | exact .inr (.inr rfl))) SE.int (by first | exact nobehind _ (by decide) (by decide) | rfl)) (SSs.one (SS.raise rfl (takes_of rfl rfl rfl rfl) (SM.own (c.e_InvalidLot rfl rfl hP) (hr.mono (by decide)) rfl (takes_of rfl rfl rfl rfl) (SA.cons (SE.var rfl (by first | exact .inl rfl | exact .inr (.inl rfl) | exact .inr (.inr rfl))) SA.nil)))) (SSs.one (SS.ife (ST.cmp (op_eqG (u64 hr)) o2_eq (SE.var rfl (by first | exact .inl rfl | exact .inr (.inl rfl) | exact .inr (.inr rfl))) SE.int (by first | exact nobehind _ (by decide) (by decide) | rfl)) (SSs.one (SS.raise rfl (takes_of rfl rfl rfl rfl) (SM.own (c.e_InvalidWorld rfl rfl hP) (hr.mono (by decide)) rfl (takes_of rfl rfl rfl rfl) (SA.cons (SE.var rfl (by first | exact .inl rfl | exact .inr (.inl rfl) | exact .inr (.inr rfl))) SA.nil)))) (SSs.one (SS.ife (ST.cmp (op_eqG (u64 hr)) o2_eq (SE.var rfl (by first | exact .inl rfl | exact .inr (.inl rfl) | exact .inr (.inr rfl))) SE.int (by first | exact nobehind _ (by decide) (by decide) | rfl)) (SSs.one (SS.raise rfl (takes_of rfl rfl rfl rfl) (SM.own (c.e_InvalidSigned rfl rfl hP) (hr.mono (by decide)) rfl (takes_of rfl rfl rfl rfl) (SA.cons (SE.var rfl (by first | exact .inl rfl | exact .inr (.inl rfl) | exact .inr (.inr rfl))) SA.nil)))) (SSs.one (SS.ife (ST.cmp (op_eqG (u64 hr)) o2_eq (SE.var rfl (by first | exact .inl rfl | exact .inr (.inl rfl) | exact .inr (.inr rfl))) SE.int (by first | exact nobehind _ (by decide) (by decide) | rfl)) (SSs.one (SS.raise rfl (takes_of rfl rfl rfl rfl) (SM.own (c.e_InvalidIndex rfl rfl hP) (hr.mono (by decide)) rfl (takes_of rfl rfl rfl rfl) (SA.cons (SE.var rfl (by first | exact .inl rfl | exact .inr (.inl rfl) | exact .inr (.inr rfl))) SA.nil)))) (SSs.one (SS.ife (ST.cmp (op_eqG (u64 hr)) o2_eq (SE.var rfl (by first | exact .inl rfl | exact .inr (.inl rfl) | exact .inr (.inr rfl))) SE.int (by first | exact nobehind _ (by decide) (by decide) | rfl)) (SSs.one (SS.raise rfl (takes_of rfl rfl rfl rfl) (SM.own (c.e_Refused rfl rfl hP) (hr.mono (by decide)) rfl (takes_of rfl rfl rfl rfl) (SA.cons (SE.var rfl (by first | exact .inl rfl | exact .inr (.inl rfl) | exact .inr (.inr rfl))) SA.nil)))) (SSs.one (SS.ife (ST.cmp (op_eqG (u64 hr)) o2_eq (SE.var rfl (by first | exact .inl rfl | exact .inr (.inl rfl) | exact .inr (.inr rfl))) SE.int (by first | exact nobehind _ (by decide) (by decide) | rfl)) (SSs.one (SS.raise rfl (takes_of rfl rfl rfl rfl) (SM.own (c.e_InvalidSize rfl rfl hP) (hr.mono (by decide)) rfl (takes_of rfl rfl rfl rfl) (SA.cons (SE.var rfl (by first | exact .inl rfl | exact .inr (.inl rfl) | exact .inr (.inr rfl))) SA.nil)))) (SSs.one (SS.ife (ST.cmp (op_eqG (u64 hr)) o2_eq (SE.var rfl (by first | exact .inl rfl | exact .inr (.inl rfl) | exact .inr (.inr rfl))) SE.int (by first | exact nobehind _ (by decide) (by decide) | rfl)) (SSs.one (SS.raise rfl (takes_of rfl rfl rfl rfl) (SM.own (c.e_NoMaker rfl rfl hP) (hr.mono (by decide)) rfl (takes_of rfl rfl rfl rfl) (SA.cons (SE.var rfl (by first | exact .inl rfl | exact .inr (.inl rfl) | exact .inr (.inr rfl))) SA.nil)))) (SSs.one (SS.ife (ST.cmp (op_eqG (u64 hr)) o2_eq (SE.var rfl (by first | exact .inl rfl | exact .inr (.inl rfl) | exact .inr (.inr rfl))) SE.int (by first | exact nobehind _ (by decide) (by decide) | rfl)) (SSs.one (SS.raise rfl (takes_of rfl rfl rfl rfl) (SM.own (c.e_NoRule rfl rfl hP) (hr.mono (by decide)) rfl (takes_of rfl rfl rfl rfl) (SA.cons (SE.var rfl (by first | exact .inl rfl | exact .inr (.inl rfl) | exact .inr (.inr rfl))) SA.nil)))) (SSs.one (SS.ife (ST.cmp (op_eqG (u64 hr)) o2_eq (SE.var rfl (by first | exact .inl rfl | exact .inr (.inl rfl) | exact .inr (.inr rfl))) SE.int (by first | exact nobehind _ (by decide) (by decide) | rfl)) (SSs.one (SS.raise rfl (takes_of rfl rfl rfl rfl) (SM.own (c.e_NotCalm rfl rfl hP) (hr.mono (by decide)) rfl (takes_of rfl rfl rfl rfl) (SA.cons (SE.var rfl (by first | exact .inl rfl | exact .inr (.inl rfl) | exact .inr (.inr rfl))) (SA.cons SE.int (SA.cons (SE.tup (SA.cons SE.int (SA.cons SE.int SA.nil))) SA.nil)))))) SSs.nil)))))))))))))))))))))))))))))))))))))))
    (SSs.one (SS.raise rfl (takes_of rfl rfl rfl rfl) (SM.own0 (c.e_InvalidCommand rfl rfl hP) (hr.mono (by decide)) rfl))))
abbrev Ok_law_caught (P : Program) (w : World) (K : PySem.W.Frag) (mg : Str → Option Value) (base : Heap) (fd : FuncData) : Prop := FunD K "_law_caught" "_law_caught" (defArgs (top 28)) (defBody (top 28)) (defScope (top 28)) [] [] (He.fAd K ("_law_caught", none)) fd ∧ FnOk P w K mg base (CX P w) 4 (He.fAd K ("_law_caught", none)) fd ["number", "thing"] (spP K 2 G_law_caught)
theorem sc_law_caught : FnScope ["number", "thing", "e"] ["number", "thing"] (defScope (top 28)) := ⟨by kernel_rfl, by kernel_rfl, by kernel_rfl, by decide, by rfl, by decide +kernel, by decide +kernel⟩
theorem ok_law_caught (c : Fx K h mg) (hP : XP P FILE) : ∃ fd, Ok_law_caught P w K mg base fd := by
  obtain ⟨fd_law_raise, F_law_raise, k_law_raise⟩ := ok_law_raise (P := P) (w := w) (base := base) c hP
  have f_law_raise_kp := F_law_raise.kp
  have b_law_raise : Binds K fd_law_raise ["number", "thing"] [] := F_law_raise.bindsN fun _ _ _ _ _ _ us hl => match us, hl with | [_, _], _ => rfl
  have f_law_raise := c.f_law_raise
  obtain ⟨fd, F⟩ := c.says.d.def_ 4 (d := d_law_caught) (by rfl)
  refine ⟨fd, F, def_ok F sc_law_caught fun cdv A outer s H E hr => ?_⟩
  have hN := sc_law_caught.nd
  unfold B_law_caught
  exact (SSs.cons (SS.try_ rfl rfl hN (takes_of rfl rfl rfl rfl) (fun W1 pn1 xe1 tk1 ps1 => (SSs.one (SS.exp (SE.call (k_law_raise.mono (by decide)) hr rfl f_law_raise f_law_raise_kp b_law_raise tk1 (SR.cons (SE.var rfl (by first | exact .inl rfl | exact .inr (.inl rfl) | exact .inr (.inr rfl))) (SR.cons (SE.var rfl (by first | exact .inl rfl | exact .inr (.inl rfl) | exact .inr (.inr rfl))) SR.nil))))))
      (HnOk.as rfl c.g_InvalidText rfl rfl rfl (SuOk.ret fun a oe cls d pn x hk hs hz hv => (SEx.tup (SAx.cons (SEx.lift SE.int) (SAx.cons (SEx.attr (c.xc _ hk) (by rw [subX_eq hs (by decide)]; exact c.l_InvalidText_at) hz hv rfl (.inl rfl)) SAx.nil))))
      (HnOk.as rfl c.g_InvalidSaying rfl rfl rfl (SuOk.ret fun a oe cls d pn x hk hs hz hv => (SEx.tup (SAx.cons (SEx.lift SE.int) (SAx.cons (SEx.attr (c.xc _ hk) (by rw [subX_eq hs (by decide)]; exact c.l_InvalidSaying_at) hz hv rfl (.inl rfl)) SAx.nil))))
      (HnOk.as rfl c.g_InvalidSheet rfl rfl rfl (SuOk.ret fun a oe cls d pn x hk hs hz hv => (SEx.tup (SAx.cons (SEx.lift SE.int) (SAx.cons (SEx.attr (c.xc _ hk) (by rw [subX_eq hs (by decide)]; exact c.l_InvalidSheet_at) hz hv rfl (.inl rfl)) SAx.nil))))
      (HnOk.as rfl c.g_InvalidFilling rfl rfl rfl (SuOk.ret fun a oe cls d pn x hk hs hz hv => (SEx.tup (SAx.cons (SEx.lift SE.int) (SAx.cons (SEx.attr (c.xc _ hk) (by rw [subX_eq hs (by decide)]; exact c.l_InvalidFilling_at) hz hv rfl (.inl rfl)) SAx.nil))))
      (HnOk.as rfl c.g_InvalidMakers rfl rfl rfl (SuOk.ret fun a oe cls d pn x hk hs hz hv => (SEx.tup (SAx.cons (SEx.lift SE.int) (SAx.cons (SEx.attr (c.xc _ hk) (by rw [subX_eq hs (by decide)]; exact c.l_InvalidMakers_at) hz hv rfl (.inl rfl)) SAx.nil))))
      (HnOk.as rfl c.g_InvalidRules rfl rfl rfl (SuOk.ret fun a oe cls d pn x hk hs hz hv => (SEx.tup (SAx.cons (SEx.lift SE.int) (SAx.cons (SEx.attr (c.xc _ hk) (by rw [subX_eq hs (by decide)]; exact c.l_InvalidRules_at) hz hv rfl (.inl rfl)) SAx.nil))))
      (HnOk.as rfl c.g_InvalidBook rfl rfl rfl (SuOk.ret fun a oe cls d pn x hk hs hz hv => (SEx.tup (SAx.cons (SEx.lift SE.int) (SAx.cons (SEx.attr (c.xc _ hk) (by rw [subX_eq hs (by decide)]; exact c.l_InvalidBook_at) hz hv rfl (.inl rfl)) SAx.nil))))
      (HnOk.as rfl c.g_InvalidRow rfl rfl rfl (SuOk.ret fun a oe cls d pn x hk hs hz hv => (SEx.tup (SAx.cons (SEx.lift SE.int) (SAx.cons (SEx.attr (c.xc _ hk) (by rw [subX_eq hs (by decide)]; exact c.l_InvalidRow_at) hz hv rfl (.inl rfl)) SAx.nil))))
      (HnOk.as rfl c.g_InvalidPremises rfl rfl rfl (SuOk.ret fun a oe cls d pn x hk hs hz hv => (SEx.tup (SAx.cons (SEx.lift SE.int) (SAx.cons (SEx.attr (c.xc _ hk) (by rw [subX_eq hs (by decide)]; exact c.l_InvalidPremises_at) hz hv rfl (.inl rfl)) SAx.nil))))
      (HnOk.as rfl c.g_InvalidProof rfl rfl rfl (SuOk.ret fun a oe cls d pn x hk hs hz hv => (SEx.tup (SAx.cons (SEx.lift SE.int) (SAx.cons (SEx.attr (c.xc _ hk) (by rw [subX_eq hs (by decide)]; exact c.l_InvalidProof_at) hz hv rfl (.inl rfl)) SAx.nil))))
      (HnOk.as rfl c.g_InvalidFacts rfl rfl rfl (SuOk.ret fun a oe cls d pn x hk hs hz hv => (SEx.tup (SAx.cons (SEx.lift SE.int) (SAx.cons (SEx.attr (c.xc _ hk) (by rw [subX_eq hs (by decide)]; exact c.l_InvalidFacts_at) hz hv rfl (.inl rfl)) SAx.nil))))
      (HnOk.as rfl c.g_InvalidLot rfl rfl rfl (SuOk.ret fun a oe cls d pn x hk hs hz hv => (SEx.tup (SAx.cons (SEx.lift SE.int) (SAx.cons (SEx.attr (c.xc _ hk) (by rw [subX_eq hs (by decide)]; exact c.l_InvalidLot_at) hz hv rfl (.inl rfl)) SAx.nil))))
      (HnOk.as rfl c.g_InvalidWorld rfl rfl rfl (SuOk.ret fun a oe cls d pn x hk hs hz hv => (SEx.tup (SAx.cons (SEx.lift SE.int) (SAx.cons (SEx.attr (c.xc _ hk) (by rw [subX_eq hs (by decide)]; exact c.l_InvalidWorld_at) hz hv rfl (.inl rfl)) SAx.nil))))
      (HnOk.as rfl c.g_InvalidSigned rfl rfl rfl (SuOk.ret fun a oe cls d pn x hk hs hz hv => (SEx.tup (SAx.cons (SEx.lift SE.int) (SAx.cons (SEx.attr (c.xc _ hk) (by rw [subX_eq hs (by decide)]; exact c.l_InvalidSigned_at) hz hv rfl (.inl rfl)) SAx.nil))))
      (HnOk.as rfl c.g_InvalidIndex rfl rfl rfl (SuOk.ret fun a oe cls d pn x hk hs hz hv => (SEx.tup (SAx.cons (SEx.lift SE.int) (SAx.cons (SEx.attr (c.xc _ hk) (by rw [subX_eq hs (by decide)]; exact c.l_InvalidIndex_at) hz hv rfl (.inl rfl)) SAx.nil))))
      (HnOk.as rfl c.g_Refused rfl rfl rfl (SuOk.ret fun a oe cls d pn x hk hs hz hv => (SEx.tup (SAx.cons (SEx.lift SE.int) (SAx.cons (SEx.attr (c.xc _ hk) (by rw [subX_eq hs (by decide)]; exact c.l_Refused_at) hz hv rfl (.inl rfl)) SAx.nil))))
      (HnOk.as rfl c.g_InvalidSize rfl rfl rfl (SuOk.ret fun a oe cls d pn x hk hs hz hv => (SEx.tup (SAx.cons (SEx.lift SE.int) (SAx.cons (SEx.attr (c.xc _ hk) (by rw [subX_eq hs (by decide)]; exact c.l_InvalidSize_word) hz hv rfl (.inl rfl)) SAx.nil))))
      (HnOk.as rfl c.g_NoMaker rfl rfl rfl (SuOk.ret fun a oe cls d pn x hk hs hz hv => (SEx.tup (SAx.cons (SEx.lift SE.int) (SAx.cons (SEx.attr (c.xc _ hk) (by rw [subX_eq hs (by decide)]; exact c.l_NoMaker_name) hz hv rfl (.inl rfl)) SAx.nil))))
      (HnOk.as rfl c.g_NoRule rfl rfl rfl (SuOk.ret fun a oe cls d pn x hk hs hz hv => (SEx.tup (SAx.cons (SEx.lift SE.int) (SAx.cons (SEx.attr (c.xc _ hk) (by rw [subX_eq hs (by decide)]; exact c.l_NoRule_number) hz hv rfl (.inl rfl)) SAx.nil))))
      (HnOk.as rfl c.g_NotCalm rfl rfl rfl (SuOk.ret fun a oe cls d pn x hk hs hz hv => (SEx.ife (STx.cmp (op_eqG (u64s hr)) o2_eq (SEx.tup (SAx.cons (SEx.attr (c.xc _ hk) (by rw [subX_eq hs (by decide)]; exact c.l_NotCalm_left) hz hv rfl (.inl rfl)) (SAx.cons (SEx.attr (c.xc _ hk) (by rw [subX_eq hs (by decide)]; exact c.l_NotCalm_row) hz hv rfl (.inl rfl)) SAx.nil))) (SEx.lift (SE.tup (SA.cons SE.int (SA.cons (SE.tup (SA.cons SE.int (SA.cons SE.int SA.nil))) SA.nil)))) (by first | exact nobehind _ (by decide) (by decide) | rfl)) (SEx.tup (SAx.cons (SEx.lift SE.int) (SAx.cons (SEx.attr (c.xc _ hk) (by rw [subX_eq hs (by decide)]; exact c.l_NotCalm_right) hz hv rfl (.inl rfl)) SAx.nil))) (SEx.lift SE.non)))
      (HnOk.plain rfl c.g_InvalidCommand rfl (fun a pn => (SSs.one (SS.ret (SE.tup (SA.cons SE.int (SA.cons (SE.var rfl (by first | exact .inl rfl | exact .inr (.inl rfl) | exact .inr (.inr rfl))) SA.nil))))))
      HnOk.nil))))))))))))))))))))) (subs_of c.says.subs _ rfl))
    (SSs.one (SS.ret SE.non)))
abbrev Ok_law_is_base (P : Program) (w : World) (K : PySem.W.Frag) (mg : Str → Option Value) (base : Heap) (fd : FuncData) : Prop := FunD K "_law_is_base" "_law_is_base" (defArgs (top 29)) (defBody (top 29)) (defScope (top 29)) [] [] (He.fAd K ("_law_is_base", none)) fd ∧ FnOk P w K mg base (CX P w) 4 (He.fAd K ("_law_is_base", none)) fd ["number", "thing"] (spP K 2 G_law_is_base)
theorem sc_law_is_base : FnScope ["number", "thing"] ["number", "thing"] (defScope (top 29)) := ⟨by kernel_rfl, by kernel_rfl, by kernel_rfl, by decide, by rfl, by decide +kernel, by decide +kernel⟩
theorem ok_law_is_base (c : Fx K h mg) (hP : XP P FILE) : ∃ fd, Ok_law_is_base P w K mg base fd := by
  obtain ⟨fd_law_raise, F_law_raise, k_law_raise⟩ := ok_law_raise (P := P) (w := w) (base := base) c hP
  have f_law_raise_kp := F_law_raise.kp
  have b_law_raise : Binds K fd_law_raise ["number", "thing"] [] := F_law_raise.bindsN fun _ _ _ _ _ _ us hl => match us, hl with | [_, _], _ => rfl
  have f_law_raise := c.f_law_raise
  obtain ⟨fd, F⟩ := c.says.d.def_ 5 (d := d_law_is_base) (by rfl)
  refine ⟨fd, F, def_ok F sc_law_is_base fun cdv A outer s H E hr => ?_⟩
  have hN := sc_law_is_base.nd
  unfold B_law_is_base
  exact (SSs.cons (SS.try_ rfl rfl hN (takes_of rfl rfl rfl rfl) (fun W1 pn1 xe1 tk1 ps1 => (SSs.one (SS.exp (SE.call (k_law_raise.mono (by decide)) hr rfl f_law_raise f_law_raise_kp b_law_raise tk1 (SR.cons (SE.var rfl (by first | exact .inl rfl | exact .inr (.inl rfl) | exact .inr (.inr rfl))) (SR.cons (SE.var rfl (by first | exact .inl rfl | exact .inr (.inl rfl) | exact .inr (.inr rfl))) SR.nil))))))
      (HnOk.plain rfl c.g_SayError rfl (fun a pn => (SSs.one (SS.ret SE.bl)))
      HnOk.nil) (subs_of c.says.subs _ rfl))
    (SSs.one (SS.ret SE.bl)))
abbrev Ok_law (P : Program) (w : World) (K : PySem.W.Frag) (mg : Str → Option Value) (base : Heap) (fd : FuncData) : Prop := FunD K "law" "law" (defArgs (top 30)) (defBody (top 30)) (defScope (top 30)) [] [] (He.fAd K ("law", none)) fd ∧ FnOk P w K mg base (CX P w) 5 (He.fAd K ("law", none)) fd ["script"] (spP K 1 G_law)
theorem sc_law : FnScope ["script", "box", "number", "thing"] ["script"] (defScope (top 30)) := ⟨by kernel_rfl, by kernel_rfl, by kernel_rfl, by decide, by rfl, by decide +kernel, by decide +kernel⟩
theorem ok_law (c : Fx K h mg) (hP : XP P FILE) : ∃ fd, Ok_law P w K mg base fd := by
  obtain ⟨fd_law_box, F_law_box, k_law_box⟩ := ok_law_box (P := P) (w := w) (base := base) c hP
  obtain ⟨fd_law_pick, F_law_pick, k_law_pick⟩ := ok_law_pick (P := P) (w := w) (base := base) c hP
  obtain ⟨fd_law_caught, F_law_caught, k_law_caught⟩ := ok_law_caught (P := P) (w := w) (base := base) c hP
  obtain ⟨fd_law_is_base, F_law_is_base, k_law_is_base⟩ := ok_law_is_base (P := P) (w := w) (base := base) c hP
  have f_law_box_kp := F_law_box.kp
  have b_law_box : Binds K fd_law_box ["script", "k"] [] := F_law_box.bindsN fun _ _ _ _ _ _ us hl => match us, hl with | [_, _], _ => rfl
  have f_law_pick_kp := F_law_pick.kp
  have b_law_pick : Binds K fd_law_pick ["box", "some"] [] := F_law_pick.bindsN fun _ _ _ _ _ _ us hl => match us, hl with | [_, _], _ => rfl
  have f_law_caught_kp := F_law_caught.kp
  have b_law_caught : Binds K fd_law_caught ["number", "thing"] [] := F_law_caught.bindsN fun _ _ _ _ _ _ us hl => match us, hl with | [_, _], _ => rfl
  have f_law_is_base_kp := F_law_is_base.kp
  have b_law_is_base : Binds K fd_law_is_base ["number", "thing"] [] := F_law_is_base.bindsN fun _ _ _ _ _ _ us hl => match us, hl with | [_, _], _ => rfl
  have f_law_box := c.f_law_box
  have f_law_caught := c.f_law_caught
  have f_law_is_base := c.f_law_is_base
  have f_law_pick := c.f_law_pick
  have n_range := c.n_range
  obtain ⟨fd, F⟩ := c.says.d.def_ 6 (d := d_law) (by rfl)
  refine ⟨fd, F, def_ok F sc_law fun cdv A outer s H E hr => ?_⟩
  have hN := sc_law.nd
  unfold B_law
  exact (SSs.cons (SS.set hN rfl (by first | exact .inl rfl | exact .inr rfl) (SE.call (k_law_box.mono (by decide)) hr rfl f_law_box f_law_box_kp b_law_box (takes_of rfl rfl rfl rfl) (SR.cons (SE.var rfl (by first | exact .inl rfl | exact .inr (.inl rfl) | exact .inr (.inr rfl))) (SR.cons SE.int SR.nil))))
    (SSs.cons (SS.for (passes_of rfl) rfl (SI.rng1 rfl n_range SE.int) (SG.name hN rfl (by first | exact .inl rfl | exact .inr rfl)) (SSs.cons (SS.set hN rfl (by first | exact .inl rfl | exact .inr rfl) (SE.call (k_law_pick.mono (by decide)) hr rfl f_law_pick f_law_pick_kp b_law_pick (takes_of rfl rfl rfl rfl) (SR.cons (SE.var rfl (by first | exact .inl rfl | exact .inr (.inl rfl) | exact .inr (.inr rfl))) (SR.cons (SE.lst (SA.cons SE.int (SA.cons (SE.neg SE.int) (SA.cons SE.non (SA.cons SE.str (SA.cons (SE.tup (SA.cons SE.int (SA.cons SE.int SA.nil))) (SA.cons (SE.lst (SA.cons SE.int SA.nil)) (SA.cons SE.bl (SA.cons SE.int SA.nil))))))))) SR.nil))))
    (SSs.one (SS.ife (SW.st (SW.or (ST.cmp (op_neG (u64 hr)) o2_ne (SE.call (k_law_caught.mono (by decide)) hr rfl f_law_caught f_law_caught_kp b_law_caught (takes_of rfl rfl rfl rfl) (SR.cons (SE.var rfl (by first | exact .inl rfl | exact .inr (.inl rfl) | exact .inr (.inr rfl))) (SR.cons (SE.var rfl (by first | exact .inl rfl | exact .inr (.inl rfl) | exact .inr (.inr rfl))) SR.nil))) (SE.tup (SA.cons (SE.var rfl (by first | exact .inl rfl | exact .inr (.inl rfl) | exact .inr (.inr rfl))) (SA.cons (SE.var rfl (by first | exact .inl rfl | exact .inr (.inl rfl) | exact .inr (.inr rfl))) SA.nil))) (by first | exact nobehind _ (by decide) (by decide) | rfl)) (SW.or1 (ST.not (ST.val (SE.call (k_law_is_base.mono (by decide)) hr rfl f_law_is_base f_law_is_base_kp b_law_is_base (takes_of rfl rfl rfl rfl) (SR.cons (SE.var rfl (by first | exact .inl rfl | exact .inr (.inl rfl) | exact .inr (.inr rfl))) (SR.cons (SE.var rfl (by first | exact .inl rfl | exact .inr (.inl rfl) | exact .inr (.inr rfl))) SR.nil)))))))) (SSs.one (SS.ret SE.bl)) SSs.nil))))
    (SSs.one (SS.ret (SE.cmp (op_eqG (u64 hr)) o2_eq (SE.tup (SA.cons (SE.mkA (SM.own (c.e_InvalidText rfl rfl hP) (hr.mono (by decide)) rfl (takes_of rfl rfl rfl rfl) (SA.cons (SE.neg SE.int) SA.nil)) eMk_cls c.t_InvalidText c.l_InvalidText_at) (SA.cons (SE.mkA (c.s_InvalidSheet rfl rfl hP (hr.mono (by decide)) rfl SE.int) eMk_cls c.t_InvalidSheet c.l_InvalidSheet_at) (SA.cons (SE.mkA (c.s_Refused rfl rfl hP (hr.mono (by decide)) rfl SE.non) eMk_cls c.t_Refused c.l_Refused_at) SA.nil)))) (SE.tup (SA.cons (SE.neg SE.int) (SA.cons SE.int (SA.cons SE.non SA.nil)))) (by first | exact nobehind _ (by decide) (by decide) | rfl))))))
end
end K00

set_option Elab.async false
set_option linter.all false
set_option maxRecDepth 100000
set_option maxHeartbeats 0
namespace K00
open PySem PySem.Spec PyProof.Rows L2 PL PXE
/-- the script as data -/
def scrD (ns : List Int) : D := .dict [(.bool true, .list (ns.map .int))]
def spLaw (K : PySem.W.Frag) (n : Nat) : Sp := fun vs H Q _ => ∃ (a : Addr) (ns : List Int), vs = [.ref a] ∧ ns.length ≤ n ∧ SqL K H a (ns.map V.int) ∧ ∀ H', Q (.bl true) H'
theorem sp_law {K : PySem.W.Frag} (vs : List V) (H : Hp) (Q : VK) (E : XK) (h : spLaw K 63 vs H Q E) : spP K 1 G_law vs H Q (fun _ _ _ => False) := by
  obtain ⟨a, ns, rfl, hl, hS, q⟩ := h
  obtain ⟨ps, e⟩ : ∃ ps, G_law [.sh (scrD ns)] = .ok (.d (.bool true)) ps := law_true ns hl
  refine ⟨[.sh (scrD ns)], H, rfl, ⟨Sub.refl, rfl, fun i s hi => ?_, fun i j w l c w' l' c' a e1 => ?_⟩, ?_⟩
  · cases i with
    | zero =>
      simp at hi
      subst hi
      exact ⟨.ref a, rfl, .scr hS (repL_ofInts ns)⟩
    | succ i => simp at hi
  · cases i with
    | zero => simp at e1
    | succ i => simp at e1
  · rw [e]
    intro v F' H' R' S' V'
    have z : Rep K F' v (.bool true) := V'
    cases z
    exact q H'
theorem no_exc {P : Program} {w : World} {K : PySem.W.Frag} {mg : Str → Option Value} {base : Heap} {k : Nat} {f : Addr} {fd : FuncData} {ps : List Str} {sp sp' : Sp} (F : FnOk P w K mg base (CX P w) k f fd ps sp)
    (h : ∀ vs H Q E, sp' vs H Q E → sp vs H Q (fun _ _ _ => False)) : FnOk P w K mg base CX0 k f fd ps sp' := by
  refine ⟨fun vs H Q E q => F.len _ _ _ _ (h _ _ _ _ q), fun A outer s H args us vs Q E hr e0 hb r q => codeAny_mono (F.run A outer s H args us vs Q _ hr e0 hb r (h _ _ _ _ q)) fun r s' hq => ?_⟩
  cases r with
  | ok fl => cases fl <;> exact hq
  | error e =>
    obtain ⟨a, B, H', cls, d, _, _, _, _, _, _, _, x⟩ := hq
    exact x.elim
theorem fun_one {K : PySem.W.Frag} {x q : Str} {ps : Arguments} {b : List Stmt} {sc : Scope} {dv : List V} {kw : List (Str × V)} {f : Addr} {fd fd' : FuncData} (A : FunD K x q ps b sc dv kw f fd) (B : FunD K x q ps b sc dv kw f fd') : fd' = fd := by
  obtain ⟨_, _, _, _, _, _, _, _, _, _, _, l1, _⟩ := A.ex
  obtain ⟨_, _, _, _, _, _, _, _, _, _, _, l2, _⟩ := B.ex
  rw [l1] at l2
  injection l2 with l2
  injection l2 with _ _ l2 _
  injection l2 with l2
  exact l2.symm
end K00
open PySem PySem.W PySem.Calls PyProof.Rows
theorem PySem.Challenge.cw_saymakers_k00_whole_errors_and_what_they_holds : PySem.Challenge.rw_saymakers_k00_whole_errors_and_what_they.Holds := by
  w_on; o_law
  refine HandSHeadRun.head_any (r := OpenLaw.row PySem.Challenge.rw_saymakers_k00_whole_errors_and_what_they) (q := view (OpenLaw.row PySem.Challenge.rw_saymakers_k00_whole_errors_and_what_they).prog [30]) (H := K00.hk) (ob := K00.ob) (M := 40000) (loose := K00.loose1) (d := HandSHeadRun.topDef (OpenLaw.row PySem.Challenge.rw_saymakers_k00_whole_errors_and_what_they).prog 30) (kwd := []) K00.ob_eq
    (by kernel_rfl) (fun s => by kernel_rfl) K00.run (by kernel_rfl) (by kernel_rfl) (by kernel_rfl) (by rfl) (by first | assumption | decide +kernel) (by decide +kernel) ⟨rfl, rfl, rfl, rfl, rfl, by decide +kernel⟩ ?hw ?hc
  case hw => w_witness2
  case hc =>
    refine L2.walk_ofE (l := PySem.Challenge.rw_saymakers_k00_whole_errors_and_what_they) (n := 63) (k := 5) (x := "script") (CX := L2.CX0) rfl (by decide) (by kernel_rfl) ⟨rfl, by decide, by decide⟩ ?F (fun _ _ _ _ z => z)
    intro w mg fa h Y G hmg0
    obtain ⟨K, KX, c⟩ := Y
    have hmg : mg ("law" : PySem.Str) = some (.ref fa) := by
      have e : (HandSHeadRun.topDef (OpenLaw.row PySem.Challenge.rw_saymakers_k00_whole_errors_and_what_they).prog 30).name = ("law" : PySem.Str) := by kernel_rfl
      rw [← e]
      exact hmg0
    have fx : K00.Fx K h mg := ⟨KX, G, c⟩
    have hP : PXE.XP (PySem.Challenge.rw_saymakers_k00_whole_errors_and_what_they).prog K00.FILE := ⟨by kernel_rfl, by kernel_rfl⟩
    have e := hmg.symm.trans fx.f_law
    cases e
    obtain ⟨fd, Fd, ok⟩ := K00.ok_law (P := (PySem.Challenge.rw_saymakers_k00_whole_errors_and_what_they).prog) (w := w) (base := h) fx hP
    have b := L2.FunD.bindsA (ps := ["script"]) Fd fun _ _ _ _ _ _ us hl => match us, hl with | [_], _ => rfl
    refine ⟨K, fd, K00.spLaw K 63, KX, fun s v => b s [v] rfl, fun H a ns hl _ hS => ⟨a, ns, rfl, hl, hS, fun _ => rfl⟩, fun base _ _ => ?_⟩
    obtain ⟨fd', Fd', ok'⟩ := K00.ok_law (P := (PySem.Challenge.rw_saymakers_k00_whole_errors_and_what_they).prog) (w := w) (base := base) fx hP
    have ef : fd' = fd := K00.fun_one Fd Fd'
    subst ef
    exact K00.no_exc ok' K00.sp_law
