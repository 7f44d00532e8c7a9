import PyProof.Rows.All
import Wide.All
import OpenK.AllK
import Wide.FinOn
import HandS.ForMost
import HandS.Zip
import HandS.Walk
import HandS.IsInst
import HandS.SortKw
import HandS.TupAny
import HandS.TupLe
import HandS.NoneIn
import HandS.TryOnly
import HandS.Flow
import HandS.Wide
import KE.SortData
import KE.DataEq
import KE.DataCmp
import KE.DataMinMax
import KE.DatumOrd
import KE.DatumMore
import KE.KDictItemsList
import KE.GoesEnum
import KE.KDictZip
import HandS.Conv
import PySem.Challenge.RW_quietcount_k14_whole_least_limits_tell_t
set_option Elab.async false
set_option linter.all false
set_option maxRecDepth 100000
set_option autoImplicit false
/-! DL: a layer over HandS in which a def is a function on plain data. -/
namespace DL
open PySem PySem.Spec PyProof.Rows L2

/-! ### data, and what it is in a heap -/
abbrev St := L2.St
inductive D where
  | non | bl (b : Bool) | int (i : Int) | str (x : Str) | lst (xs : List D) | tup (xs : List D) | mu (n : Nat) | ty (n : String)

/-! a value that is such data: what is read of it stands in F, which never changes; ι: where the things that change lie -/
mutual
def Rp (K : PySem.W.Frag) (F : Hp) (ι : List Addr) : D → V → Prop
  | .non, v => v = .non
  | .bl b, v => v = .bl b
  | .int i, v => v = .int i
  | .str x, v => v = .str x
  | .lst xs, v => ∃ a vs, v = .ref a ∧ SqL K F a vs ∧ vs.length ≤ sizeLine ∧ RpAll K F ι xs vs
  | .tup xs, v => ∃ a vs, v = .ref a ∧ SqT K F a vs ∧ vs.length ≤ sizeLine ∧ RpAll K F ι xs vs
  | .mu n, v => ∃ a, v = .ref a ∧ ι[n]? = some a
  | .ty n, v => v = .ty n
def RpAll (K : PySem.W.Frag) (F : Hp) (ι : List Addr) : List D → List V → Prop
  | [], vs => vs = []
  | d :: ds, vs => ∃ v r, vs = v :: r ∧ Rp K F ι d v ∧ RpAll K F ι ds r
end

theorem same_t {K : PySem.W.Frag} {H H' : Hp} {a : Addr} {xs : List V} (e : Same H H') (h : SqT K H a xs) : SqT K H' a xs := by
  rcases h with (h | ⟨o, h⟩) | h
  · exact .inl (.inl (e _ _ h))
  · exact .inl (.inr ⟨o, e _ _ h⟩)
  · exact .inr h
theorem pre_get {ι ι' : List Addr} (p : ι <+: ι') {n : Nat} {a : Addr} (h : ι[n]? = some a) : ι'[n]? = some a := by
  obtain ⟨t, rfl⟩ := p
  rw [List.getElem?_append_left (List.getElem?_eq_some_iff.mp h).1]
  exact h
section
variable {K : PySem.W.Frag} {F F' : Hp} {ι ι' : List Addr}
mutual
theorem Rp.mono (e : Same F F') (p : ι <+: ι') : ∀ (d : D) (v : V), Rp K F ι d v → Rp K F' ι' d v
  | .non, _, h => h
  | .bl _, _, h => h
  | .int _, _, h => h
  | .str _, _, h => h
  | .ty _, _, h => h
  | .lst xs, _, ⟨a, vs, h1, h2, hl, h3⟩ => ⟨a, vs, h1, e.seq h2, hl, RpAll.mono e p xs vs h3⟩
  | .tup xs, _, ⟨a, vs, h1, h2, hl, h3⟩ => ⟨a, vs, h1, same_t e h2, hl, RpAll.mono e p xs vs h3⟩
  | .mu n, _, ⟨a, h1, h2⟩ => ⟨a, h1, pre_get p h2⟩
theorem RpAll.mono (e : Same F F') (p : ι <+: ι') : ∀ (ds : List D) (vs : List V), RpAll K F ι ds vs → RpAll K F' ι' ds vs
  | [], _, h => h
  | d :: ds, _, ⟨v, r, h1, h2, h3⟩ => ⟨v, r, h1, Rp.mono e p d v h2, RpAll.mono e p ds r h3⟩
end
theorem RpAll.len : ∀ {ds : List D} {vs : List V}, RpAll K F ι ds vs → vs.length = ds.length
  | [], _, h => by rw [show _ = [] from h]; rfl
  | d :: ds, _, ⟨v, r, h1, _, h3⟩ => by rw [h1, List.length_cons, List.length_cons, RpAll.len h3]
theorem RpAll.get : ∀ {ds : List D} {vs : List V}, RpAll K F ι ds vs → ∀ {i : Nat} {d : D}, ds[i]? = some d → ∃ v, vs[i]? = some v ∧ Rp K F ι d v
  | [], _, _, i, d, e => by simp at e
  | d :: ds, _, ⟨v, r, h1, h2, h3⟩, 0, d', e => by
    subst h1
    simp only [List.getElem?_cons_zero, Option.some.injEq] at e
    subst e
    exact ⟨v, rfl, h2⟩
  | d :: ds, _, ⟨v, r, h1, h2, h3⟩, i + 1, d', e => by
    subst h1
    exact RpAll.get h3 (by simpa using e)
theorem RpAll.get' : ∀ {ds : List D} {vs : List V}, RpAll K F ι ds vs → ∀ {i : Nat} {v : V}, vs[i]? = some v → ∃ d, ds[i]? = some d ∧ Rp K F ι d v
  | [], _, h, i, v, e => by rw [show _ = [] from h] at e; simp at e
  | d :: ds, _, ⟨v, r, h1, h2, h3⟩, 0, d', e => by
    subst h1
    simp only [List.getElem?_cons_zero, Option.some.injEq] at e
    subst e
    exact ⟨d, rfl, h2⟩
  | d :: ds, _, ⟨v, r, h1, h2, h3⟩, i + 1, d', e => by
    subst h1
    exact RpAll.get' h3 (by simpa using e)
theorem RpAll.append : ∀ {ds es : List D} {vs ws : List V}, RpAll K F ι ds vs → RpAll K F ι es ws → RpAll K F ι (ds ++ es) (vs ++ ws)
  | [], _, _, _, h, q => by rw [show _ = [] from h]; exact q
  | d :: ds, _, _, _, ⟨v, r, h1, h2, h3⟩, q => by subst h1; exact ⟨v, r ++ _, rfl, h2, RpAll.append h3 q⟩
theorem RpAll.take : ∀ {ds : List D} {vs : List V} (n : Nat), RpAll K F ι ds vs → RpAll K F ι (ds.take n) (vs.take n)
  | _, _, 0, _ => by rw [List.take_zero, List.take_zero]; exact rfl
  | [], _, _ + 1, h => by rw [show _ = [] from h]; exact rfl
  | d :: ds, _, n + 1, ⟨v, r, h1, h2, h3⟩ => by subst h1; exact ⟨v, r.take n, rfl, h2, RpAll.take n h3⟩
theorem RpAll.drop : ∀ {ds : List D} {vs : List V} (n : Nat), RpAll K F ι ds vs → RpAll K F ι (ds.drop n) (vs.drop n)
  | _, _, 0, h => by rw [List.drop_zero, List.drop_zero]; exact h
  | [], _, _ + 1, h => by rw [show _ = [] from h]; exact rfl
  | d :: ds, _, n + 1, ⟨v, r, h1, h2, h3⟩ => by subst h1; exact RpAll.drop n h3
theorem RpAll.set : ∀ {ds : List D} {vs : List V} (n : Nat) {d : D} {v : V}, RpAll K F ι ds vs → Rp K F ι d v → RpAll K F ι (ds.set n d) (vs.set n v)
  | [], _, _, _, _, h, _ => by rw [show _ = [] from h]; exact rfl
  | d :: ds, _, 0, _, _, ⟨v, r, h1, h2, h3⟩, q => by subst h1; exact ⟨_, r, rfl, q, h3⟩
  | d :: ds, _, n + 1, _, _, ⟨v, r, h1, h2, h3⟩, q => by subst h1; exact ⟨v, r.set n _, rfl, h2, RpAll.set n h3 q⟩
theorem RpAll.eraseIdx : ∀ {ds : List D} {vs : List V} (n : Nat), RpAll K F ι ds vs → RpAll K F ι (ds.eraseIdx n) (vs.eraseIdx n)
  | [], _, _, h => by rw [show _ = [] from h]; exact rfl
  | d :: ds, _, 0, ⟨v, r, h1, h2, h3⟩ => by subst h1; exact h3
  | d :: ds, _, n + 1, ⟨v, r, h1, h2, h3⟩ => by subst h1; exact ⟨v, r.eraseIdx n, rfl, h2, RpAll.eraseIdx n h3⟩
theorem RpAll.snoc {ds : List D} {vs : List V} {d : D} {v : V} (h : RpAll K F ι ds vs) (q : Rp K F ι d v) : RpAll K F ι (ds ++ [d]) (vs ++ [v]) :=
  h.append ⟨v, [], rfl, q, rfl⟩
end

/-! ### states -/
abbrev Sto := List (List D)
structure Bas where
  F : Hp
  ι : List Addr
  H : Hp
structure Sok (K : PySem.W.Frag) (c : Bas) (S : Sto) : Prop where
  f : Same c.F c.H
  nd : c.ι.Nodup
  len : c.ι.length = S.length
  fi : ∀ a ∈ c.ι, c.F a = none
  s : ∀ (n : Nat) (a : Addr) (ds : List D), c.ι[n]? = some a → S[n]? = some ds → ∃ vs, c.H a = some (.lst vs) ∧ vs.length ≤ sizeLine ∧ RpAll K c.F c.ι ds vs
structure Step (c c' : Bas) : Prop where
  same : Same c.F c'.F
  grow : ∀ a o, c'.F a = some o → c.F a = some o ∨ c.H a = none
  fr : ∀ a o, c.H a = some o → a ∉ c.ι → (∀ ps, o ≠ .tbl ps) → c'.H a = some o
  dom : ∀ a, c.H a ≠ none → c'.H a ≠ none
  pre : c.ι <+: c'.ι
  new : ∀ a ∈ c'.ι, a ∈ c.ι ∨ c.H a = none
theorem Step.refl (c : Bas) : Step c c := ⟨Same.refl _, fun _ _ h => .inl h, fun _ _ h _ _ => h, fun _ h => h, List.prefix_rfl, fun _ h => .inl h⟩
theorem Step.trans {a b c : Bas} (h : Step a b) (q : Step b c) : Step a c where
  same := h.same.trans q.same
  grow := fun x o e => by
    rcases q.grow x o e with e1 | e1
    · exact h.grow x o e1
    · refine .inr (Classical.byContradiction fun n => h.dom x n e1)
  fr := fun x o e n t => q.fr x o (h.fr x o e n t) (fun hm => by
    rcases h.new x hm with r | r
    · exact n r
    · rw [e] at r; cases r) t
  dom := fun x n => q.dom x (h.dom x n)
  pre := h.pre.trans q.pre
  new := fun x hm => by
    rcases q.new x hm with r | r
    · exact h.new x r
    · exact .inr (Classical.byContradiction fun n => h.dom x n r)
theorem Step.rp {K : PySem.W.Frag} {c c' : Bas} (h : Step c c') {d : D} {v : V} (r : Rp K c.F c.ι d v) : Rp K c'.F c'.ι d v := Rp.mono h.same h.pre d v r
theorem Step.rpAll {K : PySem.W.Frag} {c c' : Bas} (h : Step c c') {ds : List D} {vs : List V} (r : RpAll K c.F c.ι ds vs) : RpAll K c'.F c'.ι ds vs := RpAll.mono h.same h.pre ds vs r

inductive Slot where
  | sh (d : D) | own (ds : List D)
abbrev Env := List (Option Slot)
/-- a list that only a name of the def knows: it may change -/
def OwnAt (K : PySem.W.Frag) (B : Hp) (c : Bas) (ds : List D) (v : V) : Prop :=
  ∃ a vs, v = .ref a ∧ c.H a = some (.lst vs) ∧ vs.length ≤ sizeLine ∧ RpAll K c.F c.ι ds vs ∧ c.F a = none ∧ a ∉ c.ι ∧ B a = none
def SlotOk (K : PySem.W.Frag) (B : Hp) (c : Bas) : Slot → V → Prop
  | .sh d, v => Rp K c.F c.ι d v
  | .own ds, v => OwnAt K B c ds v
structure Eok (K : PySem.W.Frag) (B : Hp) (c : Bas) (σ : St) (env : Env) : Prop where
  len : env.length = σ.length
  at_ : ∀ (i : Nat) (x : Slot), env[i]? = some (some x) → ∃ v, σ[i]? = some (some v) ∧ SlotOk K B c x v
  inj : ∀ (i j : Nat) (ds es : List D), env[i]? = some (some (.own ds)) → env[j]? = some (some (.own es)) → i ≠ j → σ[i]? ≠ σ[j]?
theorem OwnAt.step {K : PySem.W.Frag} {B : Hp} {c c' : Bas} {ds : List D} {v : V} (h : OwnAt K B c ds v) (s : Step c c') : OwnAt K B c' ds v := by
  obtain ⟨a, vs, e, h1, hl, h2, h3, h4, h5⟩ := h
  refine ⟨a, vs, e, s.fr a _ h1 h4 (fun ps z => by cases z), hl, s.rpAll h2, ?_, fun hm => ?_, h5⟩
  · cases q : c'.F a with
    | none => rfl
    | some o =>
      rcases s.grow a o q with r | r
      · rw [h3] at r; cases r
      · rw [h1] at r; cases r
  · rcases s.new a hm with r | r
    · exact h4 r
    · rw [h1] at r; cases r
theorem Eok.step {K : PySem.W.Frag} {B : Hp} {c c' : Bas} {σ : St} {env : Env} (h : Eok K B c σ env) (s : Step c c') : Eok K B c' σ env where
  len := h.len
  at_ := fun i x e => by
    obtain ⟨v, h1, h2⟩ := h.at_ i x e
    refine ⟨v, h1, ?_⟩
    cases x with
    | sh d => exact s.rp h2
    | own ds => exact OwnAt.step h2 s
  inj := h.inj
/-- the whole state, of a def that began at B -/
structure Stt (K : PySem.W.Frag) (B c : Bas) (S : Sto) (σ : St) (env : Env) : Prop where
  ok : Sok K c S
  env : Eok K B.H c σ env
  st : Step B c
theorem Stt.step {K : PySem.W.Frag} {B c c' : Bas} {S S' : Sto} {σ : St} {env : Env} (h : Stt K B c S σ env) (s : Step c c') (o : Sok K c' S') : Stt K B c' S' σ env :=
  ⟨o, h.env.step s, h.st.trans s⟩

/-! ### results -/
inductive Res (α : Type) where
  | ok (a : α) (S : Sto)
  | stuck
def Res.bind {α β : Type} (r : Res α) (f : α → Sto → Res β) : Res β := match r with
  | .ok a S => f a S
  | .stuck => .stuck
theorem Res.bind_ok {α β : Type} {r : Res α} {f : α → Sto → Res β} {b : β} {S' : Sto} (h : r.bind f = .ok b S') : ∃ a S, r = .ok a S ∧ f a S = .ok b S' := by
  cases r with
  | ok a S => exact ⟨a, S, rfl, h⟩
  | stuck => cases h
inductive Out where
  | nx (env : Env) | rt (d : D) | bk (env : Env) | ct (env : Env)
abbrev EE := Env → Sto → Res D
abbrev ET := Env → Sto → Res Bool
abbrev EL := Env → Sto → Res (List D)
abbrev SS := Env → Sto → Res Out

/-! ### readings -/
/-- what an operand is: data, or a list that a name owns -/
def Rb (K : PySem.W.Frag) (B : Hp) (c : Bas) (d : D) (v : V) : Prop := Rp K c.F c.ι d v ∨ ∃ ds, d = .lst ds ∧ OwnAt K B c ds v
theorem Rb.step {K : PySem.W.Frag} {B : Hp} {c c' : Bas} {d : D} {v : V} (h : Rb K B c d v) (s : Step c c') : Rb K B c' d v := by
  rcases h with h | ⟨ds, e, h⟩
  · exact .inl (s.rp h)
  · exact .inr ⟨ds, e, h.step s⟩
def tD (K : PySem.W.Frag) (B : Bas) (f : EE) : TE := fun σ H Q => ∃ F ι S env, Stt K B ⟨F, ι, H⟩ S σ env ∧ ∃ d S', f env S = .ok d S' ∧
  ∀ v c', Step ⟨F, ι, H⟩ c' → Sok K c' S' → Rp K c'.F c'.ι d v → Q v c'.H
def tB (K : PySem.W.Frag) (B : Bas) (f : EE) : TE := fun σ H Q => ∃ F ι S env, Stt K B ⟨F, ι, H⟩ S σ env ∧ ∃ d S', f env S = .ok d S' ∧
  ∀ v c', Step ⟨F, ι, H⟩ c' → Sok K c' S' → Rb K B.H c' d v → Q v c'.H
/-- a new list, which nobody knows -/
def NewAt (K : PySem.W.Frag) (c c' : Bas) (ds : List D) (v : V) : Prop :=
  ∃ a vs, v = .ref a ∧ c.H a = none ∧ c'.H a = some (.lst vs) ∧ vs.length ≤ sizeLine ∧ RpAll K c'.F c'.ι ds vs ∧ c'.F a = none ∧ a ∉ c'.ι
def tN (K : PySem.W.Frag) (B : Bas) (f : EL) : TE := fun σ H Q => ∃ F ι S env, Stt K B ⟨F, ι, H⟩ S σ env ∧ ∃ ds S', f env S = .ok ds S' ∧
  ∀ v c', Step ⟨F, ι, H⟩ c' → Sok K c' S' → NewAt K ⟨F, ι, H⟩ c' ds v → Q v c'.H
def tT (K : PySem.W.Frag) (B : Bas) (f : ET) : TT := fun σ H Q => ∃ F ι S env, Stt K B ⟨F, ι, H⟩ S σ env ∧ ∃ b S', f env S = .ok b S' ∧
  ∀ c', Step ⟨F, ι, H⟩ c' → Sok K c' S' → Q b c'.H
def RbAll (K : PySem.W.Frag) (B : Hp) (c : Bas) : List D → List V → Prop
  | [], vs => vs = []
  | d :: ds, vs => ∃ v r, vs = v :: r ∧ Rb K B c d v ∧ RbAll K B c ds r
/-- arguments: borrowed, or data alone -/
def tAB (K : PySem.W.Frag) (B : Bas) (f : EL) : TA := fun σ H Q => ∃ F ι S env, Stt K B ⟨F, ι, H⟩ S σ env ∧ ∃ ds S', f env S = .ok ds S' ∧
  ∀ vs c', Step ⟨F, ι, H⟩ c' → Sok K c' S' → RbAll K B.H c' ds vs → Q vs c'.H
def tA (K : PySem.W.Frag) (B : Bas) (f : EL) : TA := fun σ H Q => ∃ F ι S env, Stt K B ⟨F, ι, H⟩ S σ env ∧ ∃ ds S', f env S = .ok ds S' ∧
  ∀ vs c', Step ⟨F, ι, H⟩ c' → Sok K c' S' → RpAll K c'.F c'.ι ds vs → Q vs c'.H
def outOk (K : PySem.W.Frag) (B : Bas) (S' : Sto) (E : Ends) : Out → Prop
  | .nx env' => ∀ σ' c', Stt K B c' S' σ' env' → E.nx σ' c'.H
  | .rt d => ∀ v c', Step B c' → Sok K c' S' → Rp K c'.F c'.ι d v → E.rt v c'.H
  | .bk env' => ∀ σ' c', Stt K B c' S' σ' env' → E.bk σ' c'.H
  | .ct env' => ∀ σ' c', Stt K B c' S' σ' env' → E.ct σ' c'.H
def tS (K : PySem.W.Frag) (B : Bas) (f : SS) : TS := fun E σ H => ∃ F ι S env, Stt K B ⟨F, ι, H⟩ S σ env ∧ ∃ o S', f env S = .ok o S' ∧ outOk K B S' E o

theorem _root_.L2.PE.imp {X : Cx} {e : Expr} {t t' : TE} (h : PE X e t) (i : ∀ σ H Q, t' σ H Q → t σ H Q) : PE X e t' := ⟨fun pins s σ H Q I q => h.run pins s σ H Q I (i σ H Q q)⟩
theorem _root_.L2.PT.imp {X : Cx} {e : Expr} {t t' : TT} (h : PT X e t) (i : ∀ σ H Q, t' σ H Q → t σ H Q) : PT X e t' := ⟨fun pins s σ H Q I q => h.run pins s σ H Q I (i σ H Q q)⟩
theorem _root_.L2.PW.imp {X : Cx} {e : Expr} {t t' : TT} (h : PW X e t) (i : ∀ σ H Q, t' σ H Q → t σ H Q) : PW X e t' := ⟨fun w pins s σ H Q I q => h.run w pins s σ H Q I (i σ H Q q)⟩
theorem _root_.L2.PA.imp {X : Cx} {es : List Expr} {t t' : TA} (h : PA X es t) (i : ∀ σ H Q, t' σ H Q → t σ H Q) : PA X es t' := ⟨fun pos pins s σ H Q I q => h.run pos pins s σ H Q I (i σ H Q q)⟩
theorem _root_.L2.PS.imp {X : Cx} {st : Stmt} {t t' : TS} (h : PS X st t) (i : ∀ E σ H, t' E σ H → t E σ H) : PS X st t' := ⟨fun pins s σ H E I q => h.run pins s σ H E I (i E σ H q)⟩
theorem _root_.L2.PSs.imp {X : Cx} {st : List Stmt} {t t' : TS} (h : PSs X st t) (i : ∀ E σ H, t' E σ H → t E σ H) : PSs X st t' := ⟨fun pins s σ H E I q => h.run pins s σ H E I (i E σ H q)⟩
/-- with what the state itself tells -/
theorem _root_.L2.PE.impI {X : Cx} {e : Expr} {t t' : TE} (h : PE X e t) (i : ∀ pins s σ H Q, Inv X pins σ H s → t' σ H Q → t σ H Q) : PE X e t' := ⟨fun pins s σ H Q I q => h.run pins s σ H Q I (i pins s σ H Q I q)⟩

section
variable {X : Cx} {K : PySem.W.Frag} {B : Bas}
theorem d_b {e : Expr} {f : EE} (h : PE X e (tD K B f)) : PE X e (tB K B f) := h.imp fun σ H Q ⟨F, ι, S, env, st, d, S', e, q⟩ => ⟨F, ι, S, env, st, d, S', e, fun v c' s o r => q v c' s o (.inl r)⟩
/-- a new list becomes data -/
theorem frz_new {c c' : Bas} {S' : Sto} {ds : List D} {v : V} (st : Step c c') (ok : Sok K c' S') (h : NewAt K c c' ds v) :
    ∃ F', Step c ⟨F', c'.ι, c'.H⟩ ∧ Sok K ⟨F', c'.ι, c'.H⟩ S' ∧ Rp K F' c'.ι (.lst ds) v := by
  obtain ⟨a, vs, e, h1, h2, hl, h3, h4, h5⟩ := h
  have sm : Same c'.F (upd c'.F a (.lst vs)) := fun b o q => by
    rw [upd_ne (ne_of_none q h4)]
    exact q
  refine ⟨upd c'.F a (.lst vs), ⟨st.same.trans sm, fun b o q => ?_, st.fr, st.dom, st.pre, st.new⟩, ⟨fun b o q => ?_, ok.nd, ok.len, fun b hb => ?_, fun n b es h6 h7 => ?_⟩, ⟨a, vs, e, SqL.of upd_same, hl, RpAll.mono sm List.prefix_rfl _ _ h3⟩⟩
  · by_cases hb : b = a
    · subst hb; exact .inr h1
    · have q' : c'.F b = some o := by
        have := q
        rw [show (Bas.mk (upd c'.F a (.lst vs)) c'.ι c'.H).F = upd c'.F a (.lst vs) from rfl, upd_ne hb] at this
        exact this
      exact st.grow b o q'
  · by_cases hb : b = a
    · subst hb
      have q' : upd c'.F b (.lst vs) b = some o := q
      rw [upd_same] at q'
      rw [← q']
      exact h2
    · have q' : upd c'.F a (.lst vs) b = some o := q
      rw [upd_ne hb] at q'
      exact ok.f b o q'
  · have hb' : b ≠ a := fun z => h5 (z ▸ hb)
    show upd c'.F a (.lst vs) b = none
    rw [upd_ne hb']
    exact ok.fi b hb
  · obtain ⟨ws, g1, g2, g3⟩ := ok.s n b es h6 h7
    exact ⟨ws, g1, g2, RpAll.mono sm List.prefix_rfl _ _ g3⟩
def eLst (f : EL) : EE := fun env S => (f env S).bind fun ds S => .ok (.lst ds) S
theorem n_d {e : Expr} {f : EL} (h : PE X e (tN K B f)) : PE X e (tD K B (eLst f)) := h.imp fun σ H Q ⟨F, ι, S, env, st, d, S', e, q⟩ => by
  obtain ⟨ds, S1, e1, e2⟩ := Res.bind_ok e
  cases e2
  refine ⟨F, ι, S, env, st, ds, _, e1, fun v c' s o n => ?_⟩
  obtain ⟨F', s', o', r⟩ := frz_new s o n
  exact q v ⟨F', c'.ι, c'.H⟩ s' o' r

/-! ### names, constants -/
def eC (d : D) : EE := fun _ S => .ok d S
theorem _root_.L2.PE.const {e : Expr} {d : D} {v : V} (h : PE X e (tC v)) (r : ∀ F ι, Rp K F ι d v) : PE X e (tD K B (eC d)) := h.imp fun σ H Q ⟨F, ι, S, env, st, d', S', e, q⟩ => by
  cases e
  exact q v _ (Step.refl _) st.ok (r _ _)
theorem d_int {i j pos} : PE X (.Constant (.int i) j pos) (tD K B (eC (.int i))) := PE.const pe_int fun _ _ => rfl
theorem d_bl {b j pos} : PE X (.Constant (.bool b) j pos) (tD K B (eC (.bl b))) := PE.const pe_bl fun _ _ => rfl
theorem d_non {j pos} : PE X (.Constant .none j pos) (tD K B (eC .non)) := PE.const pe_non fun _ _ => rfl
theorem d_str {x j pos} : PE X (.Constant (.str x) j pos) (tD K B (eC (.str x))) := PE.const pe_str fun _ _ => rfl
def eV (i : Nat) : EE := fun env S => match env[i]? with
  | some (some (.sh d)) => .ok d S
  | _ => .stuck
def eVb (i : Nat) : EE := fun env S => match env[i]? with
  | some (some (.sh d)) => .ok d S
  | some (some (.own ds)) => .ok (.lst ds) S
  | _ => .stuck
theorem d_var {e : Expr} {i : Nat} (h : PE X e (tVar i)) : PE X e (tD K B (eV i)) := h.imp fun σ H Q ⟨F, ι, S, env, st, d, S', e, q⟩ => by
  unfold eV at e
  split at e
  · rename_i d' h1
    cases e
    obtain ⟨v, h2, h3⟩ := st.env.at_ i _ h1
    exact ⟨v, h2, q v _ (Step.refl _) st.ok h3⟩
  · cases e
theorem b_var {e : Expr} {i : Nat} (h : PE X e (tVar i)) : PE X e (tB K B (eVb i)) := h.imp fun σ H Q ⟨F, ι, S, env, st, d, S', e, q⟩ => by
  unfold eVb at e
  split at e
  · rename_i d' h1
    cases e
    obtain ⟨v, h2, h3⟩ := st.env.at_ i _ h1
    exact ⟨v, h2, q v _ (Step.refl _) st.ok (.inl h3)⟩
  · rename_i d' h1
    cases e
    obtain ⟨v, h2, h3⟩ := st.env.at_ i _ h1
    exact ⟨v, h2, q v _ (Step.refl _) st.ok (.inr ⟨_, rfl, h3⟩)⟩
  · cases e
end
end DL

/-! DL2: operators, comparisons, tests, arguments, displays, subscripts. -/
namespace DL
open PySem PySem.Spec PyProof.Rows L2

/-! ### data without things that change, as the library's data -/
mutual
def toPy : D → PyData
  | .non => .none
  | .bl b => .bool b
  | .int i => .int i
  | .str x => .str x
  | .lst xs => .list (toPyAll xs)
  | .tup xs => .tuple (toPyAll xs)
  | .mu _ => .none
  | .ty _ => .none
def toPyAll : List D → List PyData
  | [] => []
  | d :: ds => toPy d :: toPyAll ds
end
mutual
def pl : D → Bool
  | .non => true
  | .bl _ => true
  | .int _ => true
  | .str _ => true
  | .lst xs => plAll xs
  | .tup xs => plAll xs
  | .mu _ => false
  | .ty _ => false
def plAll : List D → Bool
  | [] => true
  | d :: ds => pl d && plAll ds
end
mutual
theorem plain_toPy : ∀ d : D, (toPy d).plain = true
  | .non => rfl
  | .bl _ => rfl
  | .int _ => rfl
  | .str _ => rfl
  | .lst xs => by show PyData.plainAll (toPyAll xs) = true; exact plain_toPyAll xs
  | .tup xs => by show PyData.plainAll (toPyAll xs) = true; exact plain_toPyAll xs
  | .mu _ => rfl
  | .ty _ => rfl
theorem plain_toPyAll : ∀ ds : List D, PyData.plainAll (toPyAll ds) = true
  | [] => rfl
  | d :: ds => by
    show (PyData.plain (toPy d) && PyData.plainAll (toPyAll ds)) = true
    rw [plain_toPy d, plain_toPyAll ds] <;> rfl
end
section
variable {K : PySem.W.Frag} {F H : Hp} {ι : List Addr}
mutual
theorem Rp.dp (e : Same F H) : ∀ (d : D) (v : V), pl d = true → Rp K F ι d v → Dp K H v (toPy d)
  | .non, _, _, h => by cases (show _ = V.non from h); exact .non
  | .bl _, _, _, h => by cases (show _ = V.bl _ from h); exact .bl _
  | .int _, _, _, h => by cases (show _ = V.int _ from h); exact .int _
  | .str _, _, _, h => by cases (show _ = V.str _ from h); exact .str _
  | .lst xs, _, hp, ⟨a, vs, h1, h2, _, h3⟩ => by subst h1; exact .lst (e.seq h2) (RpAll.dp e xs vs hp h3)
  | .tup xs, _, hp, ⟨a, vs, h1, h2, _, h3⟩ => by subst h1; exact .tup (same_t e h2) (RpAll.dp e xs vs hp h3)
  | .mu _, _, hp, _ => by cases hp
  | .ty _, _, hp, _ => by cases hp
theorem RpAll.dp (e : Same F H) : ∀ (ds : List D) (vs : List V), plAll ds = true → RpAll K F ι ds vs → DpAll K H vs (toPyAll ds)
  | [], _, _, h => by cases (show _ = [] from h); exact .nil
  | d :: ds, _, hp, ⟨v, r, h1, h2, h3⟩ => by
    have hp' : (pl d && plAll ds) = true := hp
    rw [Bool.and_eq_true] at hp'
    subst h1
    exact .cons (Rp.dp e d v hp'.1 h2) (RpAll.dp e ds r hp'.2 h3)
end
end
section
variable {K : PySem.W.Frag} {B : Hp} {c : Bas} {S : Sto}
theorem Rb.dp {d : D} {v : V} (ok : Sok K c S) (h : Rb K B c d v) (hp : pl d = true) : Dp K c.H v (toPy d) := by
  rcases h with h | ⟨ds, e, a, vs, e2, h1, _, h2, _⟩
  · exact Rp.dp ok.f d v hp h
  · subst e e2
    exact .lst (SqL.of h1) (RpAll.dp ok.f ds vs hp h2)
/-- an operand that is a list, a tuple -/
theorem Rb.lst {ds : List D} {v : V} (ok : Sok K c S) (h : Rb K B c (.lst ds) v) : ∃ a vs, v = .ref a ∧ SqL K c.H a vs ∧ vs.length ≤ sizeLine ∧ RpAll K c.F c.ι ds vs := by
  rcases h with ⟨a, vs, h1, h2, hl, h3⟩ | ⟨es, e, a, vs, e2, h1, hl, h2, _⟩
  · exact ⟨a, vs, h1, ok.f.seq h2, hl, h3⟩
  · cases e
    exact ⟨a, vs, e2, SqL.of h1, hl, h2⟩
theorem Rb.tup {ds : List D} {v : V} (ok : Sok K c S) (h : Rb K B c (.tup ds) v) : ∃ a vs, v = .ref a ∧ SqT K c.H a vs ∧ vs.length ≤ sizeLine ∧ RpAll K c.F c.ι ds vs := by
  rcases h with ⟨a, vs, h1, h2, hl, h3⟩ | ⟨es, e, _⟩
  · exact ⟨a, vs, h1, same_t ok.f h2, hl, h3⟩
  · cases e
theorem Rb.mu {n : Nat} {ds : List D} {v : V} (ok : Sok K c S) (h : Rb K B c (.mu n) v) (hs : S[n]? = some ds) : ∃ a vs, v = .ref a ∧ c.ι[n]? = some a ∧ c.H a = some (.lst vs) ∧ vs.length ≤ sizeLine ∧ RpAll K c.F c.ι ds vs := by
  rcases h with ⟨a, h1, h2⟩ | ⟨es, e, _⟩
  · obtain ⟨vs, g1, g2, g3⟩ := ok.s n a ds h2 hs
    exact ⟨a, vs, h1, h2, g1, g2, g3⟩
  · cases e
theorem Rb.int {i : Int} {v : V} (h : Rb K B c (.int i) v) : v = .int i := by
  rcases h with h | ⟨es, e, _⟩
  · exact h
  · cases e
theorem Rb.bl {i : Bool} {v : V} (h : Rb K B c (.bl i) v) : v = .bl i := by
  rcases h with h | ⟨es, e, _⟩
  · exact h
  · cases e
theorem Rb.str {i : Str} {v : V} (h : Rb K B c (.str i) v) : v = .str i := by
  rcases h with h | ⟨es, e, _⟩
  · exact h
  · cases e
theorem Rb.non {v : V} (h : Rb K B c .non v) : v = .non := by
  rcases h with h | ⟨es, e, _⟩
  · exact h
  · cases e
end

/-! ### operations on values -/
abbrev Op2 := D → D → Sto → Res D
def OpD (K : PySem.W.Frag) (r : R2) (op : Op2) : Prop := ∀ (B : Hp) (c : Bas) (S S' : Sto) (x y : V) (dx dy d : D), Sok K c S → Rb K B c dx x → Rb K B c dy y → op dx dy S = .ok d S' →
  ∀ Q : VK, (∀ v c', Step c c' → Sok K c' S' → Rp K c'.F c'.ι d v → Q v c'.H) → r x y c.H Q
def eBin (op : Op2) (f g : EE) : EE := fun env S => (f env S).bind fun x S => (g env S).bind fun y S => op x y S
/-- ints in, a datum out -/
def oI (p : Int → Int → Option D) : Op2 := fun x y S => match x, y with
  | .int i, .int j => (match p i j with
    | some d => .ok d S
    | none => .stuck)
  | _, _ => .stuck
theorem oI_ok {p : Int → Int → Option D} {x y d : D} {S S' : Sto} (h : oI p x y S = .ok d S') : ∃ i j, x = .int i ∧ y = .int j ∧ p i j = some d ∧ S' = S := by
  unfold oI at h
  split at h
  · split at h
    · rename_i hp
      cases h
      exact ⟨_, _, rfl, rfl, hp, rfl⟩
    · cases h
  · cases h
section
variable {K : PySem.W.Frag}
theorem OpD.ints {C : Int → Int → Prop} {g : Int → Int → V} {p : Int → Int → Option D} (h : ∀ i j d, p i j = some d → C i j ∧ ∀ F ι, Rp K F ι d (g i j)) : OpD K (rI C g) (oI p) := by
  intro B c S S' x y dx dy d ok hx hy e Q q
  obtain ⟨i, j, rfl, rfl, hp, rfl⟩ := oI_ok e
  obtain ⟨h1, h2⟩ := h i j d hp
  exact ⟨i, j, hx.int, hy.int, h1, q _ c (Step.refl c) ok (h2 _ _)⟩
theorem OpD.ints0 {g : Int → Int → V} {p : Int → Int → D} (h : ∀ i j F ι, Rp K F ι (p i j) (g i j)) : OpD K (rI0 g) (oI fun i j => some (p i j)) := by
  intro B c S S' x y dx dy d ok hx hy e Q q
  obtain ⟨i, j, rfl, rfl, hp, rfl⟩ := oI_ok e
  cases hp
  exact ⟨i, j, hx.int, hy.int, q _ c (Step.refl c) ok (h _ _ _ _)⟩
def oAdd : Op2 := oI fun i j => some (.int (i + j))
def oSub : Op2 := oI fun i j => some (.int (i - j))
def oMul : Op2 := oI fun i j => if (-(2 ^ 64) < i ∧ i < 2 ^ 64) ∨ (-(2 ^ 64) < j ∧ j < 2 ^ 64) then some (.int (i * j)) else none
def oMod : Op2 := oI fun i j => if 0 < j then some (.int (i % j)) else none
def oFdiv : Op2 := oI fun i j => if 0 < j ∧ j < 1073741824 then some (.int (i / j)) else none
def oPow : Op2 := oI fun i j => if 0 ≤ j ∧ j ≤ 1000000 ∧ i.natAbs < 2 ^ 64 then some (.int (i ^ j.toNat)) else none
theorem od_add : OpD K (rI0 fun i j => .int (i + j)) oAdd := OpD.ints0 fun _ _ _ _ => rfl
theorem od_sub : OpD K (rI0 fun i j => .int (i - j)) oSub := OpD.ints0 fun _ _ _ _ => rfl
theorem od_mul : OpD K (rI CMul fun i j => .int (i * j)) oMul := OpD.ints fun i j d h => by
  split at h
  · rename_i hc
    cases h
    exact ⟨hc, fun _ _ => rfl⟩
  · cases h
theorem od_mod : OpD K (rI (fun _ j => 0 < j) fun i j => .int (i % j)) oMod := OpD.ints fun i j d h => by
  split at h
  · rename_i hc
    cases h
    exact ⟨hc, fun _ _ => rfl⟩
  · cases h
theorem od_fdiv : OpD K (rI CDiv fun i j => .int (i / j)) oFdiv := OpD.ints fun i j d h => by
  split at h
  · rename_i hc
    cases h
    exact ⟨hc, fun _ _ => rfl⟩
  · cases h
theorem od_pow : OpD K (rI CPow fun i j => .int (i ^ j.toNat)) oPow := OpD.ints fun i j d h => by
  split at h
  · rename_i hc
    cases h
    exact ⟨hc, fun _ _ => rfl⟩
  · cases h
/-! comparisons -/
def oC (p : Int → Int → Bool) : Op2 := oI fun i j => some (.bl (p i j))
theorem od_cmp {p : Int → Int → Bool} : OpD K (rI0 fun i j => .bl (p i j)) (oC p) := OpD.ints0 fun _ _ _ _ => rfl
abbrev oLt : Op2 := oC fun i j => decide (i < j)
abbrev oLe : Op2 := oC fun i j => decide (i ≤ j)
abbrev oGt : Op2 := oC fun i j => decide (j < i)
abbrev oGe : Op2 := oC fun i j => decide (j ≤ i)
/-- data that == may compare -/
def okD (x : D) : Bool := pl x && decide ((toPy x).depth ≤ 40)
def eqD (x y : D) : Bool := PyData.eqv (toPy x) (toPy y)
def oEq : Op2 := fun x y S => if okD x = true ∧ okD y = true then .ok (.bl (eqD x y)) S else .stuck
def oNe : Op2 := fun x y S => if okD x = true ∧ okD y = true then .ok (.bl (!eqD x y)) S else .stuck
def rEqP (K : PySem.W.Frag) : R2 := fun x y H Q => ∃ d e, Dp K H x d ∧ Dp K H y e ∧ d.plain = true ∧ e.plain = true ∧ d.depth ≤ 40 ∧ Q (.bl (PyData.eqv d e)) H
def rNeP (K : PySem.W.Frag) : R2 := fun x y H Q => ∃ d e, Dp K H x d ∧ Dp K H y e ∧ d.plain = true ∧ e.plain = true ∧ d.depth ≤ 40 ∧ Q (.bl (!PyData.eqv d e)) H
theorem op_eqP {X : Cx} (hu : X.A.units + 64 < cLine) : OpR X (compareOp .Eq) (rEqP X.K) := by
  intro pins s σ H x y v u Q I rx ry h
  obtain ⟨d, e, hd, he, sd, se, hz, q⟩ := h
  obtain ⟨as, r1⟩ := Dp.reads I d x v hd rx
  obtain ⟨bs, r2⟩ := Dp.reads I e y u he ry
  have := Nat.min_le_left d.depth e.depth
  exact SeqAt.eq_plain r1 r2 sd se (by omega) ⟨.bl _, H, I, rfl, q⟩
theorem op_neP {X : Cx} (hu : X.A.units + 64 < cLine) : OpR X (compareOp .NotEq) (rNeP X.K) := by
  intro pins s σ H x y v u Q I rx ry h
  obtain ⟨d, e, hd, he, sd, se, hz, q⟩ := h
  obtain ⟨as, r1⟩ := Dp.reads I d x v hd rx
  obtain ⟨bs, r2⟩ := Dp.reads I e y u he ry
  have := Nat.min_le_left d.depth e.depth
  exact SeqAt.ne_plain r1 r2 sd se (by omega) ⟨.bl _, H, I, rfl, q⟩
theorem okD_iff {x : D} (h : okD x = true) : pl x = true ∧ (toPy x).depth ≤ 40 := by
  have h' : (pl x && decide ((toPy x).depth ≤ 40)) = true := h
  rw [Bool.and_eq_true, decide_eq_true_eq] at h'
  exact h'
theorem od_eq : OpD K (rEqP K) oEq := by
  intro B c S S' x y dx dy d ok hx hy e Q q
  unfold oEq at e
  split at e
  · rename_i hc
    cases e
    obtain ⟨h1, h2⟩ := okD_iff hc.1
    obtain ⟨h3, _⟩ := okD_iff hc.2
    exact ⟨_, _, hx.dp ok h1, hy.dp ok h3, plain_toPy _, plain_toPy _, h2, q _ c (Step.refl c) ok rfl⟩
  · cases e
theorem od_ne : OpD K (rNeP K) oNe := by
  intro B c S S' x y dx dy d ok hx hy e Q q
  unfold oNe at e
  split at e
  · rename_i hc
    cases e
    obtain ⟨h1, h2⟩ := okD_iff hc.1
    obtain ⟨h3, _⟩ := okD_iff hc.2
    exact ⟨_, _, hx.dp ok h1, hy.dp ok h3, plain_toPy _, plain_toPy _, h2, q _ c (Step.refl c) ok rfl⟩
  · cases e
/-- is None -/
def isNon : D → Bool
  | .non => true
  | _ => false
def oIs : Op2 := fun x y S => match y with
  | .non => .ok (.bl (isNon x)) S
  | _ => .stuck
def oIsNot : Op2 := fun x y S => match y with
  | .non => .ok (.bl (!isNon x)) S
  | _ => .stuck
theorem isNon_v {B : Hp} {c : Bas} {d : D} {v : V} (h : Rb K B c d v) : decide (v = V.non) = isNon d := by
  rcases h with h | ⟨ds, e, a, vs, e2, _⟩
  · cases d with
    | non => cases (show v = V.non from h); rfl
    | bl b => cases (show v = V.bl b from h); rfl
    | int b => cases (show v = V.int b from h); rfl
    | str b => cases (show v = V.str b from h); rfl
    | ty b => cases (show v = V.ty b from h); rfl
    | lst xs => obtain ⟨a, vs, h1, _⟩ := h; cases h1; rfl
    | tup xs => obtain ⟨a, vs, h1, _⟩ := h; cases h1; rfl
    | mu n => obtain ⟨a, h1, _⟩ := h; cases h1; rfl
  · subst e e2; rfl
theorem od_is : OpD K (fun x y H Q => y = .non ∧ Q (.bl (decide (x = .non))) H) oIs := by
  intro B c S S' x y dx dy d ok hx hy e Q q
  unfold oIs at e
  split at e
  · cases e
    refine ⟨hy.non, ?_⟩
    rw [isNon_v hx]
    exact q _ c (Step.refl c) ok rfl
  · cases e
theorem od_isnot : OpD K (fun x y H Q => y = .non ∧ Q (.bl (!decide (x = .non))) H) oIsNot := by
  intro B c S S' x y dx dy d ok hx hy e Q q
  unfold oIsNot at e
  split at e
  · cases e
    refine ⟨hy.non, ?_⟩
    rw [isNon_v hx]
    exact q _ c (Step.refl c) ok rfl
  · cases e
/-! subscripts -/
def oIx : Op2 := fun x y S => match x, y with
  | .lst ds, .int i => (match atI ds i with
    | some d => .ok d S
    | none => .stuck)
  | .tup ds, .int i => (match atI ds i with
    | some d => .ok d S
    | none => .stuck)
  | .mu n, .int i => (match (S[n]?).bind fun ds => atI ds i with
    | some d => .ok d S
    | none => .stuck)
  | _, _ => .stuck
theorem RpAll.atI {F : Hp} {ι : List Addr} {ds : List D} {vs : List V} (h : RpAll K F ι ds vs) {i : Int} {d : D} (e : atI ds i = some d) : ∃ v, L2.atI vs i = some v ∧ Rp K F ι d v := by
  unfold L2.atI at e ⊢
  rw [h.len]
  cases q : ixN ds.length i with
  | none => rw [q] at e; cases e
  | some j =>
    rw [q] at e
    exact h.get e
theorem od_ix : OpD K (rIx K) oIx := by
  intro B c S S' x y dx dy d ok hx hy e Q q
  unfold oIx at e
  split at e
  · split at e
    · rename_i ds i _ d' hd
      cases e
      obtain ⟨a, vs, e1, h1, _, h2⟩ := hx.lst ok
      obtain ⟨v, h3, h4⟩ := h2.atI hd
      exact .inl ⟨a, vs, i, v, e1, hy.int, h1, h3, q _ c (Step.refl c) ok h4⟩
    · cases e
  · split at e
    · rename_i ds i _ d' hd
      cases e
      obtain ⟨a, vs, e1, h1, _, h2⟩ := hx.tup ok
      obtain ⟨v, h3, h4⟩ := h2.atI hd
      exact .inr (.inl ⟨a, vs, i, v, e1, hy.int, h1, h3, q _ c (Step.refl c) ok h4⟩)
    · cases e
  · split at e
    · rename_i n i _ d' hd
      cases e
      obtain ⟨ds, g1, g2⟩ := Option.bind_eq_some_iff.mp hd
      obtain ⟨a, vs, e1, _, h1, _, h2⟩ := hx.mu ok g1
      obtain ⟨v, h3, h4⟩ := h2.atI g2
      exact .inl ⟨a, vs, i, v, e1, hy.int, SqL.of h1, h3, q _ c (Step.refl c) ok h4⟩
    · cases e
  · cases e
end

/-! ### the rules -/
section
variable {X : Cx} {K : PySem.W.Frag} {B : Bas} {a b e : Expr} {es : List Expr} {f g h : EE} {pos : Pos}
theorem bin_of {r : R2} {o : Op2} (od : OpD K r o) {σ : St} {H : Hp} {Q : VK} (q : tD K B (eBin o f g) σ H Q) : tOp r (tB K B f) (tB K B g) σ H Q := by
  obtain ⟨F, ι, S, env, st, d, S', e, q⟩ := q
  obtain ⟨x, S1, e1, e⟩ := Res.bind_ok e
  obtain ⟨y, S2, e2, e⟩ := Res.bind_ok e
  refine ⟨F, ι, S, env, st, x, S1, e1, fun v1 c1 s1 o1 r1 => ?_⟩
  refine ⟨c1.F, c1.ι, S1, env, st.step s1 o1, y, S2, e2, fun v2 c2 s2 o2 r2 => ?_⟩
  exact od B.H c2 S2 S' v1 v2 x y d o2 (r1.step s2) r2 e Q fun v c' s o r => q v c' ((s1.trans s2).trans s) o r
theorem d_bin {op : Operator} {r : R2} {o : Op2} (ho : OpR X (binaryOp op) r) (od : OpD K r o) (ha : PE X a (tB K B f)) (hb : PE X b (tB K B g)) : PE X (.BinOp a op b pos) (tD K B (eBin o f g)) :=
  (pe_op ho ha hb).imp fun _ _ _ q => bin_of od q
theorem d_cmp {op : CmpOp} {r : R2} {o : Op2} (ho : OpR X (compareOp op) r) (od : OpD K r o) (ha : PE X a (tB K B f)) (hb : PE X b (tB K B g)) (hm : behindInMarks op b = false) : PE X (.Compare a [op] [b] pos) (tD K B (eBin o f g)) :=
  (pe_cmpR ho ha hb hm).imp fun _ _ _ q => bin_of od q
theorem d_ix (ha : PE X a (tB K B f)) (hb : PE X b (tB K B g)) (hs : PlainIx b) (hK : X.K = K) : PE X (.Subscript a b pos) (tD K B (eBin oIx f g)) := by
  subst hK
  exact (pe_ix ix_seq ha hb hs).imp fun _ _ _ q => bin_of od_ix q
/-- a unary minus -/
def eNeg (f : EE) : EE := fun env S => (f env S).bind fun x S => match x with
  | .int i => .ok (.int (-i)) S
  | _ => .stuck
theorem d_neg (ha : PE X a (tB K B f)) : PE X (.UnaryOp .USub a pos) (tD K B (eNeg f)) := (pe_un un_neg ha).imp fun σ H Q ⟨F, ι, S, env, st, d, S', e, q⟩ => by
  obtain ⟨x, S1, e1, e⟩ := Res.bind_ok e
  refine ⟨F, ι, S, env, st, x, S1, e1, fun v1 c1 s1 o1 r1 => ?_⟩
  split at e
  · cases e
    exact ⟨_, r1.int, q _ c1 s1 o1 rfl⟩
  · cases e
/-! tests -/
def eTst (f : EE) : ET := fun env S => (f env S).bind fun x S => match x with
  | .bl b => .ok b S
  | _ => .stuck
theorem tst_of {t : TE} {σ : St} {H : Hp} {Q : Bool → Hp → Prop} (i : ∀ σ H Q, tD K B f σ H Q → t σ H Q) (q : tT K B (eTst f) σ H Q) : t σ H fun x H1 => ∃ k, x = .bl k ∧ Q k H1 := by
  obtain ⟨F, ι, S, env, st, d, S', e, q⟩ := q
  obtain ⟨x, S1, e1, e⟩ := Res.bind_ok e
  refine i σ H _ ⟨F, ι, S, env, st, x, S1, e1, fun v1 c1 s1 o1 r1 => ?_⟩
  split at e
  · cases e
    exact ⟨_, r1, q c1 s1 o1⟩
  · cases e
theorem t_cmp {op : CmpOp} {r : R2} {o : Op2} (ho : OpR X (compareOp op) r) (od : OpD K r o) (ha : PE X a (tB K B f)) (hb : PE X b (tB K B g)) (hm : behindInMarks op b = false) : PT X (.Compare a [op] [b] pos) (tT K B (eTst (eBin o f g))) :=
  (pt_cmpR ho ha hb hm).imp fun _ _ _ q => tst_of (fun _ _ _ q => bin_of od q) q
theorem t_val (h : PE X e (tD K B f)) (he : ∀ whole, isTrue e X.env whole = (do let v ← whole; standAt e.pos; holding [v] (truthy v)) := by intro _; rfl) : PT X e (tT K B (eTst f)) :=
  (pt_val h he).imp fun _ _ _ q => tst_of (fun _ _ _ q => q) q
/-- a value's truth -/
def truD (S : Sto) : D → Option Bool
  | .non => some false
  | .bl b => some b
  | .int i => some (i != 0)
  | .lst ds => some (!ds.isEmpty)
  | .tup ds => some (!ds.isEmpty)
  | .mu n => (S[n]?).map fun ds => !ds.isEmpty
  | _ => none
def eTru (f : EE) : ET := fun env S => (f env S).bind fun x S => match truD S x with
  | some b => .ok b S
  | none => .stuck
theorem RpAll.empty {F : Hp} {ι : List Addr} {ds : List D} {vs : List V} (h : RpAll K F ι ds vs) : (!vs.isEmpty) = !ds.isEmpty := by
  have e := h.len
  cases ds <;> cases vs <;> simp_all
theorem t_tru (h : PE X e (tB K B f)) (hK : X.K = K) (he : ∀ whole, isTrue e X.env whole = (do let v ← whole; standAt e.pos; holding [v] (truthy v)) := by intro _; rfl) : PT X e (tT K B (eTru f)) := by
  subst hK
  refine (pt_truth h he).imp fun σ H Q ⟨F, ι, S, env, st, d, S', e, q⟩ => ?_
  obtain ⟨x, S1, e1, e⟩ := Res.bind_ok e
  refine ⟨F, ι, S, env, st, x, S1, e1, fun v1 c1 s1 o1 r1 => ?_⟩
  split at e
  · rename_i k hk
    cases e
    refine ⟨_, ?_, q c1 s1 o1⟩
    cases x with
    | non => cases r1.non; cases hk; rfl
    | bl b => cases r1.bl; cases hk; rfl
    | int b => cases r1.int; cases hk; rfl
    | lst ds =>
      obtain ⟨p, vs, e1, h1, _, h2⟩ := r1.lst o1
      subst e1
      cases hk
      exact .inl ⟨vs, h1, h2.empty.symm⟩
    | tup ds =>
      obtain ⟨p, vs, e1, h1, _, h2⟩ := r1.tup o1
      subst e1
      cases hk
      exact .inr (.inl ⟨vs, h1, h2.empty.symm⟩)
    | mu n =>
      obtain ⟨ds, g1, g2⟩ := Option.map_eq_some_iff.mp hk
      obtain ⟨p, vs, e1, _, h1, _, h2⟩ := r1.mu o1 g1
      subst e1
      exact .inl ⟨vs, SqL.of h1, by rw [← g2]; exact h2.empty.symm⟩
    | str x => cases hk
    | ty x => cases hk
  · cases e
def eAndT (f g : ET) : ET := fun env S => (f env S).bind fun b S => if b = true then g env S else .ok false S
def eOrT (f g : ET) : ET := fun env S => (f env S).bind fun b S => if b = true then .ok true S else g env S
def eNotT (f : ET) : ET := fun env S => (f env S).bind fun b S => .ok (!b) S
variable {p q : ET} {rest : List Expr}
theorem t_not (ha : PT X a (tT K B p)) : PT X (.UnaryOp .Not a pos) (tT K B (eNotT p)) := (pt_not ha).imp fun σ H Q ⟨F, ι, S, env, st, d, S', e, q⟩ => by
  obtain ⟨x, S1, e1, e⟩ := Res.bind_ok e
  cases e
  exact ⟨F, ι, S, env, st, x, _, e1, fun c1 s1 o1 => q c1 s1 o1⟩
theorem w_and1 (ha : PT X a (tT K B p)) : PW X (.BoolOp .And [a] pos) (tT K B p) := pw_and1 ha
theorem w_or1 (ha : PT X a (tT K B p)) : PW X (.BoolOp .Or [a] pos) (tT K B p) := pw_or1 ha
theorem w_and (ha : PT X a (tT K B p)) (hb : PW X (.BoolOp .And (b :: rest) pos) (tT K B q)) : PW X (.BoolOp .And (a :: b :: rest) pos) (tT K B (eAndT p q)) := (pw_and ha hb).imp fun σ H Q ⟨F, ι, S, env, st, d, S', e, k⟩ => by
  obtain ⟨x, S1, e1, e⟩ := Res.bind_ok e
  refine ⟨F, ι, S, env, st, x, S1, e1, fun c1 s1 o1 => ?_⟩
  cases x with
  | true => exact iteT ⟨c1.F, c1.ι, S1, env, st.step s1 o1, d, S', e, fun c2 s2 o2 => k c2 (s1.trans s2) o2⟩
  | false => cases e; exact iteF (k c1 s1 o1)
theorem w_or (ha : PT X a (tT K B p)) (hb : PW X (.BoolOp .Or (b :: rest) pos) (tT K B q)) : PW X (.BoolOp .Or (a :: b :: rest) pos) (tT K B (eOrT p q)) := (pw_or ha hb).imp fun σ H Q ⟨F, ι, S, env, st, d, S', e, k⟩ => by
  obtain ⟨x, S1, e1, e⟩ := Res.bind_ok e
  refine ⟨F, ι, S, env, st, x, S1, e1, fun c1 s1 o1 => ?_⟩
  cases x with
  | true => cases e; exact iteT (k c1 s1 o1)
  | false => exact iteF ⟨c1.F, c1.ι, S1, env, st.step s1 o1, d, S', e, fun c2 s2 o2 => k c2 (s1.trans s2) o2⟩
/-! and, or, not as values of truth values -/
def eAnd (f g : EE) : EE := fun env S => (f env S).bind fun x S => match x with
  | .bl true => g env S
  | .bl false => .ok (.bl false) S
  | _ => .stuck
def eOr (f g : EE) : EE := fun env S => (f env S).bind fun x S => match x with
  | .bl true => .ok (.bl true) S
  | .bl false => g env S
  | _ => .stuck
def eNot (f : EE) : EE := fun env S => (f env S).bind fun x S => match x with
  | .bl b => .ok (.bl (!b)) S
  | _ => .stuck
theorem d_one {op} (ha : PE X a (tD K B f)) : PE X (.BoolOp op [a] pos) (tD K B f) := pe_one ha
theorem d_and (ha : PE X a (tD K B f)) (hb : PE X (.BoolOp .And (b :: rest) pos) (tD K B g)) : PE X (.BoolOp .And (a :: b :: rest) pos) (tD K B (eAnd f g)) := (pe_and ha hb).imp fun σ H Q ⟨F, ι, S, env, st, d, S', e, k⟩ => by
  obtain ⟨x, S1, e1, e⟩ := Res.bind_ok e
  refine ⟨F, ι, S, env, st, x, S1, e1, fun v1 c1 s1 o1 r1 => ?_⟩
  split at e
  · exact ⟨true, r1, iteT ⟨c1.F, c1.ι, S1, env, st.step s1 o1, d, S', e, fun v2 c2 s2 o2 r2 => k v2 c2 (s1.trans s2) o2 r2⟩⟩
  · cases e
    exact ⟨false, r1, iteF (k _ c1 s1 o1 rfl)⟩
  · cases e
theorem d_or (ha : PE X a (tD K B f)) (hb : PE X (.BoolOp .Or (b :: rest) pos) (tD K B g)) : PE X (.BoolOp .Or (a :: b :: rest) pos) (tD K B (eOr f g)) := (pe_or ha hb).imp fun σ H Q ⟨F, ι, S, env, st, d, S', e, k⟩ => by
  obtain ⟨x, S1, e1, e⟩ := Res.bind_ok e
  refine ⟨F, ι, S, env, st, x, S1, e1, fun v1 c1 s1 o1 r1 => ?_⟩
  split at e
  · cases e
    exact ⟨true, r1, iteT (k _ c1 s1 o1 rfl)⟩
  · exact ⟨false, r1, iteF ⟨c1.F, c1.ι, S1, env, st.step s1 o1, d, S', e, fun v2 c2 s2 o2 r2 => k v2 c2 (s1.trans s2) o2 r2⟩⟩
  · cases e
theorem d_not (ha : PE X a (tD K B f)) : PE X (.UnaryOp .Not a pos) (tD K B (eNot f)) := (pe_not ha).imp fun σ H Q ⟨F, ι, S, env, st, d, S', e, k⟩ => by
  obtain ⟨x, S1, e1, e⟩ := Res.bind_ok e
  refine ⟨F, ι, S, env, st, x, S1, e1, fun v1 c1 s1 o1 r1 => ?_⟩
  split at e
  · cases e
    exact ⟨_, r1, k _ c1 s1 o1 rfl⟩
  · cases e
def eIf (p : ET) (f g : EE) : EE := fun env S => (p env S).bind fun b S => if b = true then f env S else g env S
theorem d_if {c : Expr} (hc : PT X c (tT K B p)) (ha : PE X a (tD K B f)) (hb : PE X b (tD K B g)) : PE X (.IfExp c a b pos) (tD K B (eIf p f g)) := (pe_ifExp hc ha hb).imp fun σ H Q ⟨F, ι, S, env, st, d, S', e, k⟩ => by
  obtain ⟨x, S1, e1, e⟩ := Res.bind_ok e
  refine ⟨F, ι, S, env, st, x, S1, e1, fun c1 s1 o1 => ?_⟩
  cases x with
  | true => exact iteT ⟨c1.F, c1.ι, S1, env, st.step s1 o1, d, S', e, fun v2 c2 s2 o2 r2 => k v2 c2 (s1.trans s2) o2 r2⟩
  | false => exact iteF ⟨c1.F, c1.ι, S1, env, st.step s1 o1, d, S', e, fun v2 c2 s2 o2 r2 => k v2 c2 (s1.trans s2) o2 r2⟩
/-- a < b < c -/
def eChain (o o' : Op2) (f g h : EE) : EE := fun env S => (f env S).bind fun x S => (g env S).bind fun y S => (o x y S).bind fun k S => match k with
  | .bl true => (h env S).bind fun z S => o' y z S
  | .bl false => .ok (.bl false) S
  | _ => .stuck
theorem d_chain {op op' : CmpOp} {r r' : R2} {o o' : Op2} {c : Expr} (ho : OpR X (compareOp op) r) (ho' : OpR X (compareOp op') r') (od : OpD K r o) (od' : OpD K r' o') (ha : PE X a (tB K B f)) (hb : PE X b (tB K B g)) (hc : PE X c (tB K B h)) (hm : lastMarks [op, op'] [b, c] = false := by with_unfolding_all rfl) :
    PE X (.Compare a [op, op'] [b, c] pos) (tD K B (eChain o o' f g h)) := (pe_chain ho ho' ha hb hc (hm := hm)).imp fun σ H Q ⟨F, ι, S, env, st, d, S', e, k⟩ => by
  obtain ⟨x, S1, e1, e⟩ := Res.bind_ok e
  obtain ⟨y, S2, e2, e⟩ := Res.bind_ok e
  obtain ⟨z, S3, e3, e⟩ := Res.bind_ok e
  refine ⟨F, ι, S, env, st, x, S1, e1, fun v1 c1 s1 o1 r1 => ?_⟩
  refine ⟨c1.F, c1.ι, S1, env, st.step s1 o1, y, S2, e2, fun v2 c2 s2 o2 r2 => ?_⟩
  refine od B.H c2 S2 S3 v1 v2 x y z o2 (r1.step s2) r2 e3 _ fun v3 c3 s3 o3 r3 => ?_
  split at e
  · obtain ⟨z2, S4, e4, e⟩ := Res.bind_ok e
    refine ⟨true, r3, iteT ⟨c3.F, c3.ι, S3, env, st.step ((s1.trans s2).trans s3) o3, z2, S4, e4, fun v4 c4 s4 o4 r4 => ?_⟩⟩
    exact od' B.H c4 S4 S' v2 v4 y z2 d o4 ((r2.step s3).step s4) r4 e Q fun v5 c5 s5 o5 r5 => k v5 c5 ((((s1.trans s2).trans s3).trans s4).trans s5) o5 r5
  · cases e
    exact ⟨false, r3, iteF (k _ c3 ((s1.trans s2).trans s3) o3 rfl)⟩
  · cases e
theorem t_chain {op op' : CmpOp} {r r' : R2} {o o' : Op2} {c : Expr} (ho : OpR X (compareOp op) r) (ho' : OpR X (compareOp op') r') (od : OpD K r o) (od' : OpD K r' o') (ha : PE X a (tB K B f)) (hb : PE X b (tB K B g)) (hc : PE X c (tB K B h)) (hm : lastMarks [op, op'] [b, c] = false := by with_unfolding_all rfl) :
    PT X (.Compare a [op, op'] [b, c] pos) (tT K B (eTst (eChain o o' f g h))) := (pt_chain ho ho' ha hb hc (hm := hm)).imp fun _ _ _ q => tst_of (t := tChain r r' (tB K B f) (tB K B g) (tB K B h)) (fun σ H Q ⟨F, ι, S, env, st, d, S', e, k⟩ => by
  obtain ⟨x, S1, e1, e⟩ := Res.bind_ok e
  obtain ⟨y, S2, e2, e⟩ := Res.bind_ok e
  obtain ⟨z, S3, e3, e⟩ := Res.bind_ok e
  refine ⟨F, ι, S, env, st, x, S1, e1, fun v1 c1 s1 o1 r1 => ?_⟩
  refine ⟨c1.F, c1.ι, S1, env, st.step s1 o1, y, S2, e2, fun v2 c2 s2 o2 r2 => ?_⟩
  refine od B.H c2 S2 S3 v1 v2 x y z o2 (r1.step s2) r2 e3 _ fun v3 c3 s3 o3 r3 => ?_
  split at e
  · obtain ⟨z2, S4, e4, e⟩ := Res.bind_ok e
    refine ⟨true, r3, iteT ⟨c3.F, c3.ι, S3, env, st.step ((s1.trans s2).trans s3) o3, z2, S4, e4, fun v4 c4 s4 o4 r4 => ?_⟩⟩
    exact od' B.H c4 S4 S' v2 v4 y z2 d o4 ((r2.step s3).step s4) r4 e Q fun v5 c5 s5 o5 r5 => k v5 c5 ((((s1.trans s2).trans s3).trans s4).trans s5) o5 r5
  · cases e
    exact ⟨false, r3, iteF (k _ c3 ((s1.trans s2).trans s3) o3 rfl)⟩
  · cases e) q

/-! ### arguments, displays -/
def eNil : EL := fun _ S => .ok [] S
def eCons (f : EE) (g : EL) : EL := fun env S => (f env S).bind fun x S => (g env S).bind fun xs S => .ok (x :: xs) S
theorem RbAll.step {c c' : Bas} (s : Step c c') : ∀ {ds : List D} {vs : List V}, RbAll K B.H c ds vs → RbAll K B.H c' ds vs
  | [], _, h => h
  | d :: ds, _, ⟨v, r, h1, h2, h3⟩ => ⟨v, r, h1, h2.step s, RbAll.step s h3⟩
theorem a_nil : PA X [] (tA K B eNil) := pa_nil.imp fun σ H Q ⟨F, ι, S, env, st, d, S', e, k⟩ => by
  cases e
  exact k [] _ (Step.refl _) st.ok rfl
theorem ab_nil : PA X [] (tAB K B eNil) := pa_nil.imp fun σ H Q ⟨F, ι, S, env, st, d, S', e, k⟩ => by
  cases e
  exact k [] _ (Step.refl _) st.ok rfl
variable {l : EL}
theorem a_cons (ha : PE X e (tD K B f)) (hr : PA X es (tA K B l)) (hs : starEach (e :: es) X.env = (false, eval e X.env) :: starEach es X.env := by rfl) : PA X (e :: es) (tA K B (eCons f l)) := (pa_cons ha hr hs).imp fun σ H Q ⟨F, ι, S, env, st, d, S', e, k⟩ => by
  obtain ⟨x, S1, e1, e⟩ := Res.bind_ok e
  obtain ⟨y, S2, e2, e⟩ := Res.bind_ok e
  cases e
  refine ⟨F, ι, S, env, st, x, S1, e1, fun v1 c1 s1 o1 r1 => ?_⟩
  refine ⟨c1.F, c1.ι, S1, env, st.step s1 o1, y, _, e2, fun v2 c2 s2 o2 r2 => ?_⟩
  exact k _ c2 (s1.trans s2) o2 ⟨v1, v2, rfl, s2.rp r1, r2⟩
theorem ab_cons (ha : PE X e (tB K B f)) (hr : PA X es (tAB K B l)) (hs : starEach (e :: es) X.env = (false, eval e X.env) :: starEach es X.env := by rfl) : PA X (e :: es) (tAB K B (eCons f l)) := (pa_cons ha hr hs).imp fun σ H Q ⟨F, ι, S, env, st, d, S', e, k⟩ => by
  obtain ⟨x, S1, e1, e⟩ := Res.bind_ok e
  obtain ⟨y, S2, e2, e⟩ := Res.bind_ok e
  cases e
  refine ⟨F, ι, S, env, st, x, S1, e1, fun v1 c1 s1 o1 r1 => ?_⟩
  refine ⟨c1.F, c1.ι, S1, env, st.step s1 o1, y, _, e2, fun v2 c2 s2 o2 r2 => ?_⟩
  exact k _ c2 (s1.trans s2) o2 ⟨v1, v2, rfl, r1.step s2, r2⟩
/-- a new list at p -/
theorem new_lst {c : Bas} {S : Sto} {p : Addr} {ds : List D} {vs : List V} (ok : Sok K c S) (hp : c.H p = none) (hl : vs.length ≤ sizeLine) (r : RpAll K c.F c.ι ds vs) :
    Step c ⟨c.F, c.ι, upd c.H p (.lst vs)⟩ ∧ Sok K ⟨c.F, c.ι, upd c.H p (.lst vs)⟩ S ∧ NewAt K c ⟨c.F, c.ι, upd c.H p (.lst vs)⟩ ds (.ref p) := by
  have hF : c.F p = none := by
    cases q : c.F p with
    | none => rfl
    | some o => rw [ok.f p o q] at hp; cases hp
  have hι : p ∉ c.ι := fun hm => by
    obtain ⟨n, hn, e⟩ := List.mem_iff_getElem.mp hm
    have hn' : n < S.length := by rw [← ok.len]; exact hn
    obtain ⟨ws, h1, _⟩ := ok.s n p S[n] (by rw [List.getElem?_eq_getElem hn, e]) (List.getElem?_eq_getElem hn')
    rw [hp] at h1; cases h1
  have kp : ∀ a o, c.H a = some o → upd c.H p (.lst vs) a = some o := fun a o e => by
    rw [upd_ne (ne_of_none e hp)]
    exact e
  refine ⟨⟨Same.refl _, fun _ _ h => .inl h, fun a o e _ _ => kp a o e, fun a n => ?_, List.prefix_rfl, fun _ h => .inl h⟩, ⟨fun a o e => kp a o (ok.f a o e), ok.nd, ok.len, ok.fi, fun n a es h1 h2 => ?_⟩, ⟨p, vs, rfl, hp, upd_same, hl, r, hF, hι⟩⟩
  · cases q : c.H a with
    | none => exact absurd q n
    | some o =>
      show upd c.H p (.lst vs) a ≠ none
      rw [kp a o q]
      exact fun z => by cases z
  · obtain ⟨ws, g1, g2, g3⟩ := ok.s n a es h1 h2
    exact ⟨ws, kp _ _ g1, g2, g3⟩
/-- a new tuple at p, data at once -/
theorem new_tup {c : Bas} {S : Sto} {p : Addr} {ds : List D} {vs : List V} (ok : Sok K c S) (hp : c.H p = none) (hl : vs.length ≤ sizeLine) (r : RpAll K c.F c.ι ds vs) :
    Step c ⟨upd c.F p (.tup vs), c.ι, upd c.H p (.tup vs)⟩ ∧ Sok K ⟨upd c.F p (.tup vs), c.ι, upd c.H p (.tup vs)⟩ S ∧ Rp K (upd c.F p (.tup vs)) c.ι (.tup ds) (.ref p) := by
  have hF : c.F p = none := by
    cases q : c.F p with
    | none => rfl
    | some o => rw [ok.f p o q] at hp; cases hp
  have hι : p ∉ c.ι := fun hm => by
    obtain ⟨n, hn, e⟩ := List.mem_iff_getElem.mp hm
    have hn' : n < S.length := by rw [← ok.len]; exact hn
    obtain ⟨ws, h1, _⟩ := ok.s n p S[n] (by rw [List.getElem?_eq_getElem hn, e]) (List.getElem?_eq_getElem hn')
    rw [hp] at h1; cases h1
  have kp : ∀ a o, c.H a = some o → upd c.H p (.tup vs) a = some o := fun a o e => by
    rw [upd_ne (ne_of_none e hp)]
    exact e
  have kF : Same c.F (upd c.F p (.tup vs)) := fun a o e => by
    rw [upd_ne (ne_of_none e hF)]
    exact e
  refine ⟨⟨kF, fun a o e => ?_, fun a o e _ _ => kp a o e, fun a n => ?_, List.prefix_rfl, fun _ h => .inl h⟩, ⟨fun a o e => ?_, ok.nd, ok.len, fun a ha => ?_, fun n a es h1 h2 => ?_⟩, ⟨p, vs, rfl, SqT.of upd_same, hl, RpAll.mono kF List.prefix_rfl _ _ r⟩⟩
  · by_cases hb : a = p
    · subst hb; exact .inr hp
    · have e' : upd c.F p (.tup vs) a = some o := e
      rw [upd_ne hb] at e'
      exact .inl e'
  · cases q : c.H a with
    | none => exact absurd q n
    | some o =>
      show upd c.H p (.tup vs) a ≠ none
      rw [kp a o q]
      exact fun z => by cases z
  · have e' : upd c.F p (.tup vs) a = some o := e
    by_cases hb : a = p
    · subst hb
      rw [upd_same] at e'
      rw [← e']
      exact upd_same
    · rw [upd_ne hb] at e'
      exact kp a o (ok.f a o e')
  · show upd c.F p (.tup vs) a = none
    rw [upd_ne (fun z => hι (by rw [← z]; exact ha))]
    exact ok.fi a ha
  · obtain ⟨ws, g1, g2, g3⟩ := ok.s n a es h1 h2
    exact ⟨ws, kp _ _ g1, g2, RpAll.mono kF List.prefix_rfl _ _ g3⟩
def eTup (l : EL) : EE := fun env S => (l env S).bind fun xs S => if xs.length ≤ 1000 then .ok (.tup xs) S else .stuck
def eDsp (l : EL) : EL := fun env S => (l env S).bind fun xs S => if xs.length ≤ 1000 then .ok xs S else .stuck
theorem sz1000 {n : Nat} (h : n ≤ 1000) : n ≤ sizeLine := Nat.le_trans h (by decide)
theorem d_tup {x1} (ha : PA X es (tA K B l)) : PE X (.Tuple es x1 pos) (tD K B (eTup l)) := (pe_tup ha).imp fun σ H Q ⟨F, ι, S, env, st, d, S', e, k⟩ => by
  obtain ⟨xs, S1, e1, e⟩ := Res.bind_ok e
  refine ⟨F, ι, S, env, st, xs, S1, e1, fun vs c1 s1 o1 r1 => ?_⟩
  split at e
  · rename_i hz
    cases e
    have hl : vs.length ≤ sizeLine := by rw [r1.len]; exact sz1000 hz
    refine ⟨hl, fun p hp => ?_⟩
    obtain ⟨s2, o2, r2⟩ := new_tup o1 hp hl r1
    exact k _ ⟨_, _, _⟩ (s1.trans s2) o2 r2
  · cases e
theorem n_lst (ha : PA X es (tA K B l)) : PE X (.List es pos) (tN K B (eDsp l)) := (pe_lst ha).imp fun σ H Q ⟨F, ι, S, env, st, d, S', e, k⟩ => by
  obtain ⟨xs, S1, e1, e⟩ := Res.bind_ok e
  refine ⟨F, ι, S, env, st, xs, S1, e1, fun vs c1 s1 o1 r1 => ?_⟩
  split at e
  · rename_i hz
    cases e
    have hl : vs.length ≤ sizeLine := by rw [r1.len]; exact sz1000 hz
    refine ⟨hl, fun p hp => ?_⟩
    obtain ⟨s2, o2, a, ws, g1, g2, g3⟩ := new_lst o1 hp hl r1
    have nH : (Bas.mk F ι H).H a = none := by
      cases q : (Bas.mk F ι H).H a with
      | none => rfl
      | some o => exact absurd g2 (s1.dom a (by rw [q]; exact fun z => by cases z))
    exact k _ ⟨_, _, _⟩ (s1.trans s2) o2 ⟨a, ws, g1, nH, g3⟩
  · cases e
end
end DL

/-! DL3: statements, targets, loops, comprehensions, defs. -/
namespace DL
open PySem PySem.Spec PyProof.Rows L2

/-! ### places that nobody else knows -/
def LAt (c : Bas) (a : Addr) (o : HO) : Prop := c.H a = some o ∧ c.F a = none ∧ a ∉ c.ι
theorem LAt.step {c c' : Bas} {a : Addr} {xs : List V} (h : LAt c a (.lst xs)) (s : Step c c') : LAt c' a (.lst xs) := by
  obtain ⟨h1, h3, h4⟩ := h
  refine ⟨s.fr a _ h1 h4 (fun ps z => by cases z), ?_, fun hm => ?_⟩
  · cases q : c'.F a with
    | none => rfl
    | some o =>
      rcases s.grow a o q with r | r
      · rw [h3] at r; cases r
      · rw [h1] at r; cases r
  · rcases s.new a hm with r | r
    · exact h4 r
    · rw [h1] at r; cases r
/-- a place that was new changes -/
theorem Step.upd_new {c c' : Bas} {a : Addr} {o : HO} (s : Step c c') (h : c.H a = none) : Step c ⟨c'.F, c'.ι, upd c'.H a o⟩ where
  same := s.same
  grow := s.grow
  fr := fun b u e n t => by
    show upd c'.H a o b = some u
    rw [upd_ne (ne_of_none e h)]
    exact s.fr b u e n t
  dom := fun b n => by
    by_cases hb : b = a
    · subst hb; exact absurd h n
    · show upd c'.H a o b ≠ none
      rw [upd_ne hb]
      exact s.dom b n
  pre := s.pre
  new := s.new
theorem Sok.upd {K : PySem.W.Frag} {c : Bas} {S : Sto} {a : Addr} {o : HO} (ok : Sok K c S) (h1 : c.F a = none) (h2 : a ∉ c.ι) : Sok K ⟨c.F, c.ι, upd c.H a o⟩ S where
  f := fun b u e => by
    show L2.upd c.H a o b = some u
    rw [upd_ne (ne_of_none e h1)]
    exact ok.f b u e
  nd := ok.nd
  len := ok.len
  fi := ok.fi
  s := fun n b ds e1 e2 => by
    obtain ⟨vs, g1, g2, g3⟩ := ok.s n b ds e1 e2
    refine ⟨vs, ?_, g2, g3⟩
    show L2.upd c.H a o b = some _
    rw [upd_ne (fun z => h2 (by rw [← z]; exact List.mem_of_getElem? e1))]
    exact g1

/-! ### environments -/
theorem Eok.set_sh {K : PySem.W.Frag} {B : Hp} {c : Bas} {σ : St} {env : Env} (h : Eok K B c σ env) (i : Nat) {d : D} {v : V} (r : Rp K c.F c.ι d v) : Eok K B c (σ.set i (some v)) (env.set i (some (.sh d))) where
  len := by rw [List.length_set, List.length_set]; exact h.len
  at_ := fun j x e => by
    by_cases hj : i = j
    · subst hj
      have hl : i < env.length := by
        have := (List.getElem?_eq_some_iff.mp e).1
        rw [List.length_set] at this
        exact this
      rw [List.getElem?_set_self hl] at e
      cases e
      exact ⟨v, List.getElem?_set_self (by rw [← h.len]; exact hl), r⟩
    · rw [List.getElem?_set_ne hj] at e ⊢
      exact h.at_ j x e
  inj := fun j k ds es e1 e2 hjk => by
    have hj : i ≠ j := fun z => by
      subst z
      have hl : i < env.length := by
        have := (List.getElem?_eq_some_iff.mp e1).1
        rw [List.length_set] at this
        exact this
      rw [List.getElem?_set_self hl] at e1
      cases e1
    have hk : i ≠ k := fun z => by
      subst z
      have hl : i < env.length := by
        have := (List.getElem?_eq_some_iff.mp e2).1
        rw [List.length_set] at this
        exact this
      rw [List.getElem?_set_self hl] at e2
      cases e2
    rw [List.getElem?_set_ne hj] at e1 ⊢
    rw [List.getElem?_set_ne hk] at e2 ⊢
    exact h.inj j k ds es e1 e2 hjk
/-- a name gets a list of its own, which no other name has -/
theorem Eok.set_own {K : PySem.W.Frag} {B : Hp} {c : Bas} {σ : St} {env : Env} (h : Eok K B c σ env) (i : Nat) {ds : List D} {v : V} (r : OwnAt K B c ds v) (hn : ∀ j es, j ≠ i → env[j]? = some (some (.own es)) → σ[j]? ≠ some (some v)) : Eok K B c (σ.set i (some v)) (env.set i (some (.own ds))) where
  len := by rw [List.length_set, List.length_set]; exact h.len
  at_ := fun j x e => by
    by_cases hj : i = j
    · subst hj
      have hl : i < env.length := by
        have := (List.getElem?_eq_some_iff.mp e).1
        rw [List.length_set] at this
        exact this
      rw [List.getElem?_set_self hl] at e
      cases e
      exact ⟨v, List.getElem?_set_self (by rw [← h.len]; exact hl), r⟩
    · rw [List.getElem?_set_ne hj] at e ⊢
      exact h.at_ j x e
  inj := fun j k ds es e1 e2 hjk => by
    have hlj : j < env.length := by
      have := (List.getElem?_eq_some_iff.mp e1).1
      rw [List.length_set] at this
      exact this
    have hlk : k < env.length := by
      have := (List.getElem?_eq_some_iff.mp e2).1
      rw [List.length_set] at this
      exact this
    by_cases hj : i = j
    · subst hj
      rw [List.getElem?_set_self (by rw [← h.len]; exact hlj), List.getElem?_set_ne hjk]
      rw [List.getElem?_set_ne hjk] at e2
      exact fun z => hn k _ (fun z => hjk z.symm) e2 z.symm
    · by_cases hk : i = k
      · subst hk
        rw [List.getElem?_set_self (show i < σ.length by rw [← h.len]; exact hlk), List.getElem?_set_ne hj]
        rw [List.getElem?_set_ne hj] at e1
        exact hn j _ hjk e1
      · rw [List.getElem?_set_ne hj] at e1 ⊢
        rw [List.getElem?_set_ne hk] at e2 ⊢
        exact h.inj j k _ _ e1 e2 hjk
def wipeE (env : Env) : List Nat → Env
  | [] => env
  | v :: vs => (wipeE env vs).set v none
theorem Eok.set_none {K : PySem.W.Frag} {B : Hp} {c : Bas} {σ : St} {env : Env} (h : Eok K B c σ env) (i : Nat) : Eok K B c (σ.set i none) (env.set i none) where
  len := by rw [List.length_set, List.length_set]; exact h.len
  at_ := fun j x e => by
    by_cases hj : i = j
    · subst hj
      have hl : i < env.length := by
        have := (List.getElem?_eq_some_iff.mp e).1
        rw [List.length_set] at this
        exact this
      rw [List.getElem?_set_self hl] at e
      cases e
    · rw [List.getElem?_set_ne hj] at e ⊢
      exact h.at_ j x e
  inj := fun j k ds es e1 e2 hjk => by
    have hj : i ≠ j := fun z => by
      subst z
      have hl : i < env.length := by
        have := (List.getElem?_eq_some_iff.mp e1).1
        rw [List.length_set] at this
        exact this
      rw [List.getElem?_set_self hl] at e1
      cases e1
    have hk : i ≠ k := fun z => by
      subst z
      have hl : i < env.length := by
        have := (List.getElem?_eq_some_iff.mp e2).1
        rw [List.length_set] at this
        exact this
      rw [List.getElem?_set_self hl] at e2
      cases e2
    rw [List.getElem?_set_ne hj] at e1 ⊢
    rw [List.getElem?_set_ne hk] at e2 ⊢
    exact h.inj j k ds es e1 e2 hjk
theorem Eok.wipe {K : PySem.W.Frag} {B : Hp} {c : Bas} {σ : St} {env : Env} (h : Eok K B c σ env) : ∀ vs : List Nat, Eok K B c (L2.wipe σ vs) (wipeE env vs)
  | [] => h
  | v :: vs => (Eok.wipe h vs).set_none v
theorem wipe_get {σ : St} {j : Nat} : ∀ {vs : List Nat}, (wipe σ vs)[j]? = if j < σ.length ∧ j ∈ vs then some none else σ[j]?
  | [] => by simp [wipe]
  | v :: vs => by
    show ((wipe σ vs).set v none)[j]? = _
    by_cases hj : v = j
    · subst hj
      by_cases hl : v < σ.length
      · rw [List.getElem?_set_self (by rw [wipe_length]; exact hl), if_pos ⟨hl, List.mem_cons_self⟩]
      · rw [if_neg (fun z => hl z.1), List.getElem?_eq_none (by rw [List.length_set, wipe_length]; omega), List.getElem?_eq_none (by omega)]
    · rw [List.getElem?_set_ne hj, wipe_get]
      by_cases hl : j < σ.length ∧ j ∈ vs
      · rw [if_pos hl, if_pos ⟨hl.1, List.mem_cons_of_mem _ hl.2⟩]
      · rw [if_neg hl, if_neg (fun z => hl ⟨z.1, by
          rcases List.mem_cons.mp z.2 with r | r
          · exact absurd r.symm hj
          · exact r⟩)]
theorem wipe_eq {σ σ' : St} {vs : List Nat} (hl : σ'.length = σ.length) (h : ∀ j, j ∉ vs → σ'[j]? = σ[j]?) : wipe σ' vs = wipe σ vs := by
  refine List.ext_getElem? fun j => ?_
  rw [wipe_get, wipe_get, hl]
  by_cases hj : j ∈ vs
  · by_cases hk : j < σ.length
    · rw [if_pos ⟨hk, hj⟩, if_pos ⟨hk, hj⟩]
    · rw [if_neg (fun z => hk z.1), if_neg (fun z => hk z.1), List.getElem?_eq_none (by omega), List.getElem?_eq_none (by omega)]
  · rw [if_neg (fun z => hj z.2), if_neg (fun z => hj z.2), h j hj]
theorem wipe_idem {σ : St} {vs : List Nat} : wipe (wipe σ vs) vs = wipe σ vs := wipe_eq (σ := σ) (wipe_length _ _) fun j hj => by
  rw [wipe_get, if_neg (fun z => hj z.2)]

/-! ### targets -/
abbrev GE := D → Env → Option Env
/-- ts: the places that are stored -/
def tG (K : PySem.W.Frag) (B : Bas) (g : GE) (ts : List Nat) : TG := fun v σ H Q => ∃ F ι S env d env', Stt K B ⟨F, ι, H⟩ S σ env ∧ Rp K F ι d v ∧ g d env = some env' ∧
  ∀ σ', Stt K B ⟨F, ι, H⟩ S σ' env' → σ'.length = σ.length → (∀ j, j ∉ ts → σ'[j]? = σ[j]?) → Q σ' H
def tGs (K : PySem.W.Frag) (B : Bas) (g : List D → Env → Option Env) (ts : List Nat) : TGs := fun vs σ H Q => ∃ F ι S env ds env', Stt K B ⟨F, ι, H⟩ S σ env ∧ RpAll K F ι ds vs ∧ g ds env = some env' ∧
  ∀ σ', Stt K B ⟨F, ι, H⟩ S σ' env' → σ'.length = σ.length → (∀ j, j ∉ ts → σ'[j]? = σ[j]?) → Q σ' H
theorem _root_.L2.PG.imp {X : Cx} {tg : Expr} {t t' : TG} (h : PG X tg t) (i : ∀ v σ H Q, t' v σ H Q → t v σ H Q) : PG X tg t' := ⟨fun pins s σ H v u Q I r q => h.run pins s σ H v u Q I r (i v σ H Q q)⟩
theorem _root_.L2.PG.or {X : Cx} {tg : Expr} {t t' : TG} (h : PG X tg t) (h' : PG X tg t') : PG X tg (fun v σ H Q => t v σ H Q ∨ t' v σ H Q) := ⟨fun pins s σ H v u Q I r q => q.elim (h.run pins s σ H v u Q I r) (h'.run pins s σ H v u Q I r)⟩
theorem _root_.L2.PGs.imp {X : Cx} {tg : List Expr} {t t' : TGs} (h : PGs X tg t) (i : ∀ v σ H Q, t' v σ H Q → t v σ H Q) : PGs X tg t' := ⟨fun pins s σ H v u Q I r q => h.run pins s σ H v u Q I r (i v σ H Q q)⟩
def gN (i : Nat) : GE := fun d env => some (env.set i (some (.sh d)))
def gsNil : List D → Env → Option Env := fun ds env => match ds with
  | [] => some env
  | _ => none
def gsCons (g : GE) (gs : List D → Env → Option Env) : List D → Env → Option Env := fun ds env => match ds with
  | d :: r => (g d env).bind (gs r)
  | [] => none
/-- a, b = a tuple or a list -/
def gTp (n : Nat) (gs : List D → Env → Option Env) : GE := fun d env => match d with
  | .tup ds => if ds.length = n then gs ds env else none
  | .lst ds => if ds.length = n then gs ds env else none
  | _ => none
section
variable {X : Cx} {K : PySem.W.Frag} {B : Bas} {pos : Pos} {e : Expr} {es : List Expr}
theorem g_name {t : TG} {tg : Expr} {i : Nat} (h : PG X tg (gName i)) : PG X tg (tG K B (gN i) [i]) := h.imp fun v σ H Q ⟨F, ι, S, env, d, env', st, r, e, k⟩ => by
  cases e
  exact k _ ⟨st.ok, st.env.set_sh i r, st.st⟩ (List.length_set) fun j hj => List.getElem?_set_ne (fun z => hj (by rw [z]; exact List.mem_singleton.mpr rfl))
theorem gs_nil : PGs X [] (tGs K B gsNil []) := pgs_nil.imp fun v σ H Q ⟨F, ι, S, env, ds, env', st, r, e, k⟩ => by
  cases ds with
  | nil => cases e; exact ⟨r, k σ st rfl fun _ _ => rfl⟩
  | cons d ds => cases e
theorem gs_cons {g : GE} {gs : List D → Env → Option Env} {ts us : List Nat} (h : PG X e (tG K B g ts)) (hs : PGs X es (tGs K B gs us)) (ha : (assignEach (e :: es) X.env).map (·.2) = assign e X.env :: (assignEach es X.env).map (·.2) := by rfl) :
    PGs X (e :: es) (tGs K B (gsCons g gs) (ts ++ us)) := (pgs_cons h hs ha).imp fun v σ H Q ⟨F, ι, S, env, ds, env', st, r, e, k⟩ => by
  cases ds with
  | nil => cases e
  | cons d ds =>
    obtain ⟨v1, r1, e1, h1, h2⟩ := r
    obtain ⟨env1, g1, g2⟩ := Option.bind_eq_some_iff.mp e
    refine ⟨v1, r1, e1, F, ι, S, env, d, env1, st, h1, g1, fun σ1 st1 l1 f1 => ?_⟩
    exact ⟨F, ι, S, env1, ds, env', st1, h2, g2, fun σ2 st2 l2 f2 => k σ2 st2 (l2.trans l1) fun j hj => (f2 j fun z => hj (List.mem_append_right _ z)).trans (f1 j fun z => hj (List.mem_append_left _ z))⟩
theorem g_tup {k n : Nat} {gs : List D → Env → Option Env} {ts : List Nat} (hK : X.K = K) (hc : X.calm = true) (h : PGs X es (tGs K B gs ts))
    (hn : (assignEach es X.env).length = n := by rfl) (hst : (assignEach es X.env).findIdx? (·.1) = none := by rfl) : PG X (.Tuple es k pos) (tG K B (gTp n gs) ts) := by
  subst hK
  refine ((pg_tup hc h hn hst).or (pg_unl hc h hn hst)).imp fun v σ H Q ⟨F, ι, S, env, d, env', st, r, e, q⟩ => ?_
  cases d with
  | tup ds =>
    obtain ⟨a, vs, e1, h1, _, h2⟩ := r
    have e' : (if ds.length = n then gs ds env else none) = some env' := e
    split at e'
    · rename_i hl
      exact .inl ⟨a, vs, e1, same_t st.ok.f h1, by rw [h2.len, hl], F, ι, S, env, ds, env', st, h2, e', q⟩
    · cases e'
  | lst ds =>
    obtain ⟨a, vs, e1, h1, _, h2⟩ := r
    have e' : (if ds.length = n then gs ds env else none) = some env' := e
    split at e'
    · rename_i hl
      exact .inr ⟨a, vs, e1, st.ok.f.seq h1, by rw [h2.len, hl], F, ι, S, env, ds, env', st, h2, e', q⟩
    · cases e'
  | non => cases e
  | bl b => cases e
  | int b => cases e
  | str b => cases e
  | mu b => cases e
  | ty b => cases e
end

/-! ### statements -/
/-- what is known behind some statements -/
structure Adv (c c' : Bas) : Prop where
  same : Same c.F c'.F
  pre : c.ι <+: c'.ι
theorem Adv.refl (c : Bas) : Adv c c := ⟨Same.refl _, List.prefix_rfl⟩
theorem Adv.trans {a b c : Bas} (h : Adv a b) (q : Adv b c) : Adv a c := ⟨h.same.trans q.same, h.pre.trans q.pre⟩
theorem Step.adv {a b : Bas} (h : Step a b) : Adv a b := ⟨h.same, h.pre⟩
theorem Adv.rp {K : PySem.W.Frag} {c c' : Bas} (h : Adv c c') {d : D} {v : V} (r : Rp K c.F c.ι d v) : Rp K c'.F c'.ι d v := Rp.mono h.same h.pre d v r
theorem Adv.rpAll {K : PySem.W.Frag} {c c' : Bas} (h : Adv c c') {d : List D} {v : List V} (r : RpAll K c.F c.ι d v) : RpAll K c'.F c'.ι d v := RpAll.mono h.same h.pre d v r
def outK (K : PySem.W.Frag) (B c : Bas) (S' : Sto) (E : Ends) : Out → Prop
  | .nx env' => ∀ σ' c', Stt K B c' S' σ' env' → Adv c c' → E.nx σ' c'.H
  | .rt d => ∀ v c', Step B c' → Sok K c' S' → Rp K c'.F c'.ι d v → E.rt v c'.H
  | .bk env' => ∀ σ' c', Stt K B c' S' σ' env' → Adv c c' → E.bk σ' c'.H
  | .ct env' => ∀ σ' c', Stt K B c' S' σ' env' → Adv c c' → E.ct σ' c'.H
theorem outK.adv {K : PySem.W.Frag} {B c c1 : Bas} {S' : Sto} {E : Ends} (a : Adv c c1) : ∀ {o : Out}, outK K B c S' E o → outK K B c1 S' E o
  | .nx _, h => fun σ' c' st s => h σ' c' st (a.trans s)
  | .rt _, h => h
  | .bk _, h => fun σ' c' st s => h σ' c' st (a.trans s)
  | .ct _, h => fun σ' c' st s => h σ' c' st (a.trans s)
def tK (K : PySem.W.Frag) (B : Bas) (f : SS) : TS := fun E σ H => ∃ F ι S env, Stt K B ⟨F, ι, H⟩ S σ env ∧ ∃ o S', f env S = .ok o S' ∧ outK K B ⟨F, ι, H⟩ S' E o
def sNil : SS := fun env S => .ok (.nx env) S
def sSeq (f g : SS) : SS := fun env S => (f env S).bind fun o S => match o with
  | .nx env => g env S
  | o => .ok o S
def sSet (i : Nat) (f : EE) : SS := fun env S => (f env S).bind fun d S => .ok (.nx (env.set i (some (.sh d)))) S
def sNew (i : Nat) (f : EL) : SS := fun env S => (f env S).bind fun ds S => .ok (.nx (env.set i (some (.own ds)))) S
def sRet (f : EE) : SS := fun env S => (f env S).bind fun d S => .ok (.rt d) S
def sRetN : SS := fun _ S => .ok (.rt .non) S
def sIf (p : ET) (f g : SS) : SS := fun env S => (p env S).bind fun b S => if b = true then f env S else g env S
def sDrop (f : EE) : SS := fun env S => (f env S).bind fun _ S => .ok (.nx env) S
def sAsgT (g : GE) (f : EE) : SS := fun env S => (f env S).bind fun d S => match g d env with
  | some env' => .ok (.nx env') S
  | none => .stuck
/-- xs.append(e), xs a list of the name's own -/
def sApp (i : Nat) (f : EE) : SS := fun env S => (f env S).bind fun d S => match env[i]? with
  | some (some (.own ds)) => if ds.length < 1000000 then .ok (.nx (env.set i (some (.own (ds ++ [d]))))) S else .stuck
  | _ => .stuck
/-- a name's own list becomes data (nothing happens) -/
def sFrz (i : Nat) (g : SS) : SS := fun env S => match env[i]? with
  | some (some (.own ds)) => g (env.set i (some (.sh (.lst ds)))) S
  | _ => g env S
/-- o[k] = e, o a thing that changes -/
def sStore (f o k : EE) : SS := fun env S => (f env S).bind fun d S => (o env S).bind fun x S => (k env S).bind fun i S => match x, i with
  | .mu n, .int j => (match S[n]? with
    | some ds => (match ixN ds.length j with
      | some t => .ok (.nx env) (S.set n (ds.set t d))
      | none => .stuck)
    | none => .stuck)
  | _, _ => .stuck
theorem Stt.frz {K : PySem.W.Frag} {B c : Bas} {S : Sto} {σ : St} {env : Env} {i : Nat} {ds : List D} (st : Stt K B c S σ env) (h : env[i]? = some (some (.own ds))) :
    ∃ F', Adv c ⟨F', c.ι, c.H⟩ ∧ Stt K B ⟨F', c.ι, c.H⟩ S σ (env.set i (some (.sh (.lst ds)))) := by
  obtain ⟨v, hv, a, vs, e, h1, hl, h2, h3, h4, h5⟩ := st.env.at_ i _ h
  subst e
  have sm : Same c.F (upd c.F a (.lst vs)) := fun b o q => by
    rw [upd_ne (ne_of_none q h3)]
    exact q
  have ad : Adv c ⟨upd c.F a (.lst vs), c.ι, c.H⟩ := ⟨sm, List.prefix_rfl⟩
  refine ⟨upd c.F a (.lst vs), ad, ⟨⟨fun b o q => ?_, st.ok.nd, st.ok.len, fun b hb => ?_, fun n b es g1 g2 => ?_⟩, ⟨by rw [List.length_set]; exact st.env.len, fun j x e => ?_, fun j k es fs e1 e2 hjk => ?_⟩, ⟨st.st.same.trans sm, fun b o q => ?_, st.st.fr, st.st.dom, st.st.pre, st.st.new⟩⟩⟩
  · have q' : upd c.F a (.lst vs) b = some o := q
    by_cases hb : b = a
    · subst hb
      rw [upd_same] at q'
      rw [← q']
      exact h1
    · rw [upd_ne hb] at q'
      exact st.ok.f b o q'
  · show upd c.F a (.lst vs) b = none
    rw [upd_ne (fun z => h4 (by rw [← z]; exact hb))]
    exact st.ok.fi b hb
  · obtain ⟨ws, g3, g4, g5⟩ := st.ok.s n b es g1 g2
    exact ⟨ws, g3, g4, ad.rpAll g5⟩
  · by_cases hj : i = j
    · subst hj
      have hl' : i < env.length := (List.getElem?_eq_some_iff.mp h).1
      rw [List.getElem?_set_self hl'] at e
      cases e
      exact ⟨.ref a, hv, a, vs, rfl, SqL.of upd_same, hl, ad.rpAll h2⟩
    · rw [List.getElem?_set_ne hj] at e
      obtain ⟨w, g1, g2⟩ := st.env.at_ j x e
      refine ⟨w, g1, ?_⟩
      cases x with
      | sh d => exact ad.rp g2
      | own es =>
        obtain ⟨b, ws, e2, k1, k2, k3, k4, k5, k6⟩ := g2
        refine ⟨b, ws, e2, k1, k2, ad.rpAll k3, ?_, k5, k6⟩
        have hba : b ≠ a := fun z => st.env.inj i j ds es h e hj (by rw [hv, g1, e2, z])
        show upd c.F a (.lst vs) b = none
        rw [upd_ne hba]
        exact k4
  · have hj : i ≠ j := fun z => by
      subst z
      rw [List.getElem?_set_self ((List.getElem?_eq_some_iff.mp h).1)] at e1
      cases e1
    have hk : i ≠ k := fun z => by
      subst z
      rw [List.getElem?_set_self ((List.getElem?_eq_some_iff.mp h).1)] at e2
      cases e2
    rw [List.getElem?_set_ne hj] at e1
    rw [List.getElem?_set_ne hk] at e2
    exact st.env.inj j k es fs e1 e2 hjk
  · have q' : upd c.F a (.lst vs) b = some o := q
    by_cases hb : b = a
    · subst hb; exact .inr h5
    · rw [upd_ne hb] at q'
      exact st.st.grow b o q'
section
variable {X : Cx} {K : PySem.W.Frag} {B : Bas} {pos : Pos} {e : Expr} {es : List Expr} {f o k : EE} {l : EL} {p : ET} {s t : SS} {st : Stmt} {sts : List Stmt}
theorem ss_nil : PSs X [] (tK K B sNil) := pss_nil.imp fun E σ H ⟨F, ι, S, env, st, o, S', e, q⟩ => by
  cases e
  exact q σ _ st (Adv.refl _)
theorem ss_cons (h1 : PS X st (tK K B s)) (h2 : PSs X sts (tK K B t)) : PSs X (st :: sts) (tK K B (sSeq s t)) := (pss_cons h1 h2).imp fun E σ H ⟨F, ι, S, env, st, o, S', e, q⟩ => by
  obtain ⟨o1, S1, e1, e⟩ := Res.bind_ok e
  refine ⟨F, ι, S, env, st, o1, S1, e1, ?_⟩
  cases o1 with
  | nx env1 => exact fun σ1 c1 st1 s1 => ⟨c1.F, c1.ι, S1, env1, st1, o, S', e, outK.adv s1 q⟩
  | rt d => cases e; exact q
  | bk d => cases e; exact q
  | ct d => cases e; exact q
theorem ss_one (h1 : PS X st (tK K B s)) : PSs X [st] (tK K B s) := pss_one h1
theorem ss_frz {i : Nat} (h : PSs X sts (tK K B s)) : PSs X sts (tK K B (sFrz i s)) := h.imp fun E σ H ⟨F, ι, S, env, st, o, S', e, q⟩ => by
  unfold sFrz at e
  split at e
  · rename_i ds hi
    obtain ⟨F', ad, st'⟩ := st.frz hi
    exact ⟨F', ι, S, _, st', o, S', e, outK.adv ad q⟩
  · exact ⟨F, ι, S, env, st, o, S', e, q⟩
theorem s_set {i : Nat} (h : PS X st (tAsg (tD K B f) (gName i))) : PS X st (tK K B (sSet i f)) := h.imp fun E σ H ⟨F, ι, S, env, st, o, S', e, q⟩ => by
  obtain ⟨d, S1, e1, e⟩ := Res.bind_ok e
  cases e
  refine ⟨F, ι, S, env, st, d, _, e1, fun v c1 s1 o1 r1 => ?_⟩
  have st1 := st.step s1 o1
  exact q _ c1 ⟨st1.ok, st1.env.set_sh i r1, st1.st⟩ s1.adv
theorem NewAt.own {c c' b : Bas} {ds : List D} {v : V} (s : Step b c) (n : NewAt K c c' ds v) : OwnAt K b.H c' ds v := by
  obtain ⟨a, vs, e, h1, h2, h3, h4, h5, h6⟩ := n
  refine ⟨a, vs, e, h2, h3, h4, h5, h6, ?_⟩
  cases q : b.H a with
  | none => rfl
  | some o => exact absurd h1 (s.dom a (by rw [q]; exact fun z => by cases z))
theorem s_new {i : Nat} (h : PS X st (tAsg (tN K B l) (gName i))) : PS X st (tK K B (sNew i l)) := h.imp fun E σ H ⟨F, ι, S, env, st, o, S', e, q⟩ => by
  obtain ⟨d, S1, e1, e⟩ := Res.bind_ok e
  cases e
  refine ⟨F, ι, S, env, st, d, _, e1, fun v c1 s1 o1 n1 => ?_⟩
  have st1 := st.step s1 o1
  refine q _ c1 ⟨st1.ok, st1.env.set_own i (NewAt.own st.st n1) (fun j es hj ej z => ?_), st1.st⟩ s1.adv
  -- another name's list stood before
  obtain ⟨w, g1, a, ws, e2, g2, _⟩ := st.env.at_ j _ ej
  obtain ⟨a', vs', e3, n2, _⟩ := n1
  rw [g1, e2, e3] at z
  cases z
  rw [n2] at g2
  cases g2
theorem s_ret (h : PE X e (tD K B f)) : PS X (.Return (some e) pos) (tK K B (sRet f)) := (ps_ret h).imp fun E σ H ⟨F, ι, S, env, st, o, S', e, q⟩ => by
  obtain ⟨d, S1, e1, e⟩ := Res.bind_ok e
  cases e
  exact ⟨F, ι, S, env, st, d, _, e1, fun v c1 s1 o1 r1 => q v c1 (st.st.trans s1) o1 r1⟩
theorem s_retN : PS X (.Return none pos) (tK K B sRetN) := ps_retN.imp fun E σ H ⟨F, ι, S, env, st, o, S', e, q⟩ => by
  cases e
  exact q .non ⟨F, ι, H⟩ st.st st.ok rfl
theorem s_if {c : Expr} {a b : List Stmt} (hc : PT X c (tT K B p)) (ha : PSs X a (tK K B s)) (hb : PSs X b (tK K B t)) : PS X (.If c a b pos) (tK K B (sIf p s t)) := (ps_if hc ha hb).imp fun E σ H ⟨F, ι, S, env, st, o, S', e, q⟩ => by
  obtain ⟨d, S1, e1, e⟩ := Res.bind_ok e
  refine ⟨F, ι, S, env, st, d, S1, e1, fun c1 s1 o1 => ?_⟩
  cases d with
  | true => exact iteT ⟨c1.F, c1.ι, S1, env, st.step s1 o1, o, S', e, outK.adv s1.adv q⟩
  | false => exact iteF ⟨c1.F, c1.ι, S1, env, st.step s1 o1, o, S', e, outK.adv s1.adv q⟩
theorem s_drop (h : PE X e (tD K B f)) (hs : swapsWith e none pos.line X.env = pure false := by rfl) : PS X (.Expr e pos) (tK K B (sDrop f)) := (ps_expr h hs).imp fun E σ H ⟨F, ι, S, env, st, o, S', e, q⟩ => by
  obtain ⟨d, S1, e1, e⟩ := Res.bind_ok e
  cases e
  exact ⟨F, ι, S, env, st, d, _, e1, fun v c1 s1 o1 r1 => q σ c1 (st.step s1 o1) s1.adv⟩
theorem s_asgT {g : GE} {ts : List Nat} (h : PS X st (tAsg (tD K B f) (tG K B g ts))) : PS X st (tK K B (sAsgT g f)) := h.imp fun E σ H ⟨F, ι, S, env, st, o, S', e, q⟩ => by
  obtain ⟨d, S1, e1, e⟩ := Res.bind_ok e
  refine ⟨F, ι, S, env, st, d, S1, e1, fun v c1 s1 o1 r1 => ?_⟩
  split at e
  · rename_i env' he
    cases e
    exact ⟨c1.F, c1.ι, _, env, d, env', st.step s1 o1, r1, he, fun σ' st' _ _ => q σ' c1 st' s1.adv⟩
  · cases e
theorem sizeM {n : Nat} (h : n < 1000000) : n < sizeLine := Nat.lt_of_lt_of_le h (by decide)
theorem s_app {i : Nat} {x : Expr} {apos : Pos} (hK : X.K = K) (hx : PE X x (tVar i)) (h : PE X e (tD K B f)) (hs : starEach [e] X.env = (false, eval e X.env) :: starEach [] X.env := by rfl)
    (hp : PS X st (tDrop (tBM X.K "list" rAppend (tVar i) (tCons (tD K B f) tNil)))) : PS X st (tK K B (sApp i f)) := hp.imp fun E σ H ⟨F, ι, S, env, st, o, S', e, q⟩ => by
  subst hK
  obtain ⟨d, S1, e1, e⟩ := Res.bind_ok e
  split at e
  · rename_i ds hi
    split at e
    · rename_i hz
      cases e
      obtain ⟨v, hv, a, vs, ev, h1, hl, h2, h3, h4, h5⟩ := st.env.at_ i _ hi
      subst ev
      refine ⟨.ref a, hv, .inl ⟨rfl, _, SqL.of h1⟩, F, ι, S, env, st, d, _, e1, fun w c1 s1 o1 r1 => ?_⟩
      have st1 := st.step s1 o1
      have la : LAt c1 a (.lst vs) := LAt.step (c := ⟨F, ι, H⟩) ⟨h1, h3, h4⟩ s1
      have hlen : vs.length < sizeLine := by rw [h2.len]; exact sizeM hz
      refine ⟨a, vs, w, rfl, rfl, la.1, hlen, ?_⟩
      refine q σ ⟨c1.F, c1.ι, upd c1.H a (.lst (vs ++ [w]))⟩ ⟨st1.ok.upd la.2.1 la.2.2, ?_, st1.st.upd_new h5⟩ ⟨s1.same, s1.pre⟩
      -- the names' values
      have sok : ∀ (x : Slot) (j : Nat) (u : V), j ≠ i → env[j]? = some (some x) → σ[j]? = some (some u) → SlotOk X.K B.H c1 x u → SlotOk X.K B.H ⟨c1.F, c1.ι, upd c1.H a (.lst (vs ++ [w]))⟩ x u := fun x j u hj ej eu hx => by
        cases x with
        | sh d => exact hx
        | own es =>
          obtain ⟨b, ws, e2, k1, k2, k3, k4, k5, k6⟩ := hx
          refine ⟨b, ws, e2, ?_, k2, k3, k4, k5, k6⟩
          have hba : b ≠ a := fun z => st.env.inj i j ds es hi ej (fun z => hj z.symm) (by rw [hv, eu, e2, z])
          show upd c1.H a _ b = some _
          rw [upd_ne hba]
          exact k1
      refine ⟨by rw [List.length_set]; exact st1.env.len, fun j x ej => ?_, fun j j2 es fs e2 e3 hjk => ?_⟩
      · by_cases hj : i = j
        · subst hj
          rw [List.getElem?_set_self ((List.getElem?_eq_some_iff.mp hi).1)] at ej
          cases ej
          exact ⟨.ref a, hv, a, vs ++ [w], rfl, upd_same, by rw [List.length_append]; exact hlen, (s1.rpAll h2).snoc r1, la.2.1, la.2.2, h5⟩
        · rw [List.getElem?_set_ne hj] at ej
          obtain ⟨u, g1, g2⟩ := st1.env.at_ j x ej
          exact ⟨u, g1, sok x j u (fun z => hj z.symm) ej g1 g2⟩
      · have own_of : ∀ (j : Nat) (es : List D), (env.set i (some (.own (ds ++ [d]))))[j]? = some (some (.own es)) → ∃ es', env[j]? = some (some (.own es')) := fun j es ej => by
          by_cases hj : i = j
          · subst hj; exact ⟨ds, hi⟩
          · rw [List.getElem?_set_ne hj] at ej; exact ⟨es, ej⟩
        obtain ⟨es', g1⟩ := own_of j es e2
        obtain ⟨fs', g2⟩ := own_of j2 fs e3
        exact st.env.inj j j2 es' fs' g1 g2 hjk
    · cases e
  · cases e
theorem s_store {x i : Expr} {tpos : Pos} (hv : PE X e (tD K B f)) (ho : PE X x (tD K B o)) (hi : PE X i (tD K B k)) (hp : PS X st (tAsg (tD K B f) (gSub (tD K B o) (tD K B k) rSetL))) : PS X st (tK K B (sStore f o k)) := hp.imp fun E σ H ⟨F, ι, S, env, st, oo, S', e, q⟩ => by
  obtain ⟨d, S1, e1, e⟩ := Res.bind_ok e
  obtain ⟨y, S2, e2, e⟩ := Res.bind_ok e
  obtain ⟨z, S3, e3, e⟩ := Res.bind_ok e
  refine ⟨F, ι, S, env, st, d, S1, e1, fun v1 c1 s1 o1 r1 => ?_⟩
  refine ⟨c1.F, c1.ι, S1, env, st.step s1 o1, y, S2, e2, fun v2 c2 s2 o2 r2 => ?_⟩
  refine ⟨c2.F, c2.ι, S2, env, st.step (s1.trans s2) o2, z, S3, e3, fun v3 c3 s3 o3 r3 => ?_⟩
  split at e
  · rename_i n j _
    split at e
    · rename_i ds hS
      split at e
      · rename_i t ht
        cases e
        obtain ⟨a, ea, ha⟩ := s3.rp r2
        have hj : v3 = .int j := r3
        obtain ⟨vs, h1, hl, h2⟩ := o3.s n a ds ha hS
        refine ⟨a, vs, j, t, ea, hj, h1, by rw [h2.len]; exact ht, ?_⟩
        have sm := (s1.trans s2).trans s3
        have st3 := st.step sm o3
        have ham : a ∈ c3.ι := List.mem_of_getElem? ha
        -- the store with its new content
        have rd : Rp K c3.F c3.ι d v1 := s3.rp (s2.rp r1)
        have ok' : Sok K ⟨c3.F, c3.ι, upd c3.H a (.lst (vs.set t v1))⟩ (S3.set n (ds.set t d)) := by
          refine ⟨fun b u q => ?_, o3.nd, by rw [List.length_set]; exact o3.len, o3.fi, fun m b es g1 g2 => ?_⟩
          · have hb : b ≠ a := fun z => by
              subst z
              have := o3.fi b ham
              rw [show c3.F b = some u from q] at this
              cases this
            show upd c3.H a _ b = some u
            rw [upd_ne hb]
            exact o3.f b u q
          · by_cases hm : n = m
            · subst hm
              have hba : b = a := by
                have g1' : c3.ι[n]? = some b := g1
                rw [ha] at g1'
                exact (Option.some.inj g1').symm
              subst hba
              rw [List.getElem?_set_self ((List.getElem?_eq_some_iff.mp hS).1)] at g2
              cases g2
              exact ⟨_, upd_same, by rw [List.length_set]; exact hl, h2.set t rd⟩
            · rw [List.getElem?_set_ne hm] at g2
              obtain ⟨ws, k1, k2, k3⟩ := o3.s m b es g1 g2
              refine ⟨ws, ?_, k2, k3⟩
              have hba : b ≠ a := fun z => by
                subst z
                have n1 := (List.getElem?_eq_some_iff.mp ha)
                have n2 := (List.getElem?_eq_some_iff.mp (show c3.ι[m]? = some b from g1))
                exact hm ((List.getElem_inj o3.nd).mp (n1.2.trans n2.2.symm))
              show upd c3.H a _ b = some _
              rw [upd_ne hba]
              exact k1
        have nB : ∀ b u, B.H b = some u → b ∉ B.ι → b ≠ a := fun b u hb hn z => by
          subst z
          rcases st3.st.new b ham with r | r
          · exact hn r
          · rw [hb] at r; cases r
        refine q σ ⟨c3.F, c3.ι, upd c3.H a (.lst (vs.set t v1))⟩ ⟨ok', ⟨st3.env.len, fun j2 x ej => ?_, st3.env.inj⟩, ⟨st3.st.same, st3.st.grow, fun b u hb hn ht => ?_, fun b hb => ?_, st3.st.pre, st3.st.new⟩⟩ ⟨sm.same, sm.pre⟩
        · obtain ⟨u, g1, g2⟩ := st3.env.at_ j2 x ej
          refine ⟨u, g1, ?_⟩
          cases x with
          | sh d => exact g2
          | own es =>
            obtain ⟨b, ws, e4, k1, k2, k3, k4, k5, k6⟩ := g2
            refine ⟨b, ws, e4, ?_, k2, k3, k4, k5, k6⟩
            show upd c3.H a _ b = some _
            rw [upd_ne (fun z => k5 (by rw [z]; exact ham))]
            exact k1
        · show upd c3.H a _ b = some u
          rw [upd_ne (nB b u hb hn)]
          exact st3.st.fr b u hb hn ht
        · by_cases hba : b = a
          · subst hba
            show upd c3.H b _ b ≠ none
            rw [upd_same]
            exact fun z => by cases z
          · show upd c3.H a _ b ≠ none
            rw [upd_ne hba]
            exact st3.st.dom b hb
      · cases e
    · cases e
  · cases e
end
end DL

/-! DL4: what is walked, loops, comprehensions, defs and their calls. -/
namespace DL
open PySem PySem.Spec PyProof.Rows L2

/-! ### what is walked: it gives these data, one after another, as long as what was known stays -/
structure WalkD (K : PySem.W.Frag) (c : Bas) (J : It) (ds : List D) : Prop where
  len : ds.length ≤ sizeLine
  go : ∀ (i : Nat) (c' : Bas) (S' : Sto), Adv c c' → Sok K c' S' → i < ds.length → J.go i c'.H
  stop : ∀ (c' : Bas) (S' : Sto), Adv c c' → Sok K c' S' → J.stop ds.length c'.H
  yld : ∀ (i : Nat) (c' : Bas) (S' : Sto) (x : V) (H' : Hp), Adv c c' → Sok K c' S' → i < ds.length → J.yld i c'.H x H' →
    ∃ d F', ds[i]? = some d ∧ Step c' ⟨F', c'.ι, H'⟩ ∧ Sok K ⟨F', c'.ι, H'⟩ S' ∧ Rp K F' c'.ι d x
def tI (K : PySem.W.Frag) (B : Bas) (f : EL) : TI := fun σ H R => ∃ F ι S env, Stt K B ⟨F, ι, H⟩ S σ env ∧ ∃ ds S', f env S = .ok ds S' ∧
  ∀ J c', Step ⟨F, ι, H⟩ c' → Sok K c' S' → WalkD K c' J ds → R J c'.H
theorem _root_.L2.PI.imp {X : Cx} {tg iter : Expr} {t t' : TI} (h : PI X tg iter t) (i : ∀ σ H R, t' σ H R → t σ H R) : PI X tg iter t' := ⟨fun pins s σ H R I q => h.run pins s σ H R I (i σ H R q)⟩

/-! a list or a tuple -/
def iSeq (K : PySem.W.Frag) (tl : TE) : TI := fun σ H R => tl σ H fun x H1 => (∃ a xs, x = .ref a ∧ SqL K H1 a xs ∧ R (Itl K a) H1) ∨ (∃ a xs, x = .ref a ∧ SqT K H1 a xs ∧ R (Itt K a) H1)
theorem pi_seq {X : Cx} {tg l : Expr} {tl : TE} (hl : PE X l tl) : PI X tg l (iSeq X.K tl) := by
  refine ⟨fun pins s σ H R I h => ?_⟩
  refine thn (hl.run pins s σ H _ I h) fun v s1 ⟨x, H1, I1, r1, q1⟩ => ?_
  rcases q1 with ⟨a, xs, e, hq, q⟩ | ⟨a, xs, e, hq, q⟩
  · subst e
    cases r1
    obtain ⟨its, rv, p, hz⟩ := I1.list hq
    refine wpAny_pyIter_list p.isList ?_
    refine ⟨s1.heap.objs.size, [s1.heap.objs.size], _, _, H1, rfl, I1.kept (t' := s1.toks) fun b o e => Heap.get?_push_of_some _ e, turn_list a _, ⟨_, Heap.get?_push_size _ rfl, rfl, rfl⟩, fun b hb => ?_, q⟩
    have e : b = s1.heap.objs.size := by simpa using hb
    subst e
    exact I1.fpOk (Nat.le_refl _) (I1.hok.fresh (Nat.le_refl _))
  · subst e
    cases r1
    obtain ⟨its, rv, p, hz⟩ := I1.tuple hq
    refine wpAny_pyIter_tuple (show s1.heap.IsTuple a its.toArray from p) ?_
    refine ⟨s1.heap.objs.size, [s1.heap.objs.size], _, _, H1, rfl, I1.kept (t' := s1.toks) fun b o e => Heap.get?_push_of_some _ e, turn_tuple a _, ⟨_, Heap.get?_push_size _ rfl, rfl, rfl⟩, fun b hb => ?_, q⟩
    have e : b = s1.heap.objs.size := by simpa using hb
    subst e
    exact I1.fpOk (Nat.le_refl _) (I1.hok.fresh (Nat.le_refl _))
section
variable {K : PySem.W.Frag} {c : Bas} {a : Addr} {ds : List D} {vs : List V}
theorem walkD_list (h : SqL K c.F a vs) (hl : vs.length ≤ sizeLine) (r : RpAll K c.F c.ι ds vs) : WalkD K c (Itl K a) ds where
  len := by rw [← r.len]; exact hl
  go := fun i c' S' ad ok hi => walk_list.goes i c'.H (by rw [r.len]; exact hi) (ok.f.seq (ad.same.seq h))
  stop := fun c' S' ad ok => by rw [← r.len]; exact walk_list.stops c'.H (ok.f.seq (ad.same.seq h))
  yld := fun i c' S' x H' ad ok hi y => by
    obtain ⟨e1, e2⟩ := walk_list.yields i c'.H x H' (by rw [r.len]; exact hi) (ok.f.seq (ad.same.seq h)) y
    subst e1
    obtain ⟨d, e3, r3⟩ := r.get' e2
    exact ⟨d, c'.F, e3, Step.refl c', ok, ad.rp r3⟩
theorem walkD_tup (h : SqT K c.F a vs) (hl : vs.length ≤ sizeLine) (r : RpAll K c.F c.ι ds vs) : WalkD K c (Itt K a) ds where
  len := by rw [← r.len]; exact hl
  go := fun i c' S' ad ok hi => walk_tup.goes i c'.H (by rw [r.len]; exact hi) (same_t ok.f (same_t ad.same h))
  stop := fun c' S' ad ok => by rw [← r.len]; exact walk_tup.stops c'.H (same_t ok.f (same_t ad.same h))
  yld := fun i c' S' x H' ad ok hi y => by
    obtain ⟨e1, e2⟩ := walk_tup.yields i c'.H x H' (by rw [r.len]; exact hi) (same_t ok.f (same_t ad.same h)) y
    subst e1
    obtain ⟨d, e3, r3⟩ := r.get' e2
    exact ⟨d, c'.F, e3, Step.refl c', ok, ad.rp r3⟩
end
def seqD : D → Option (List D)
  | .lst ds => some ds
  | .tup ds => some ds
  | _ => none
def iD (f : EE) : EL := fun env S => (f env S).bind fun d S => match seqD d with
  | some ds => .ok ds S
  | none => .stuck
section
variable {X : Cx} {K : PySem.W.Frag} {B : Bas} {tg e e2 : Expr} {f g : EE} {pos : Pos}
theorem i_seq (hK : X.K = K) (h : PE X e (tD K B f)) : PI X tg e (tI K B (iD f)) := by
  subst hK
  refine (pi_seq h).imp fun σ H R ⟨F, ι, S, env, st, ds, S', e, q⟩ => ?_
  obtain ⟨d, S1, e1, e⟩ := Res.bind_ok e
  refine ⟨F, ι, S, env, st, d, S1, e1, fun v c1 s1 o1 r1 => ?_⟩
  cases d with
  | lst xs =>
    cases e
    obtain ⟨a, vs, ev, h1, hl, h2⟩ := r1
    exact .inl ⟨a, vs, ev, o1.f.seq h1, q _ c1 s1 o1 (walkD_list h1 hl h2)⟩
  | tup xs =>
    cases e
    obtain ⟨a, vs, ev, h1, hl, h2⟩ := r1
    exact .inr ⟨a, vs, ev, same_t o1.f h1, q _ c1 s1 o1 (walkD_tup h1 hl h2)⟩
  | non => cases e
  | bl b => cases e
  | int b => cases e
  | str b => cases e
  | mu b => cases e
  | ty b => cases e
/-! ranges -/
def rangeD (lo : Int) (n : Nat) : List D := (List.range n).map fun (i : Nat) => D.int (lo + (i : Int))
theorem rangeD_len (lo : Int) (n : Nat) : (rangeD lo n).length = n := by unfold rangeD; rw [List.length_map, List.length_range]
theorem rangeD_get {lo : Int} {n i : Nat} (h : i < n) : (rangeD lo n)[i]? = some (.int (lo + (i : Int))) := by
  unfold rangeD
  rw [List.getElem?_map, List.getElem?_range h]
  rfl
def iRg1 (f : EE) : EL := fun env S => (f env S).bind fun d S => match d with
  | .int j => if -1000000 ≤ j ∧ j ≤ 1000000 then .ok (rangeD 0 j.toNat) S else .stuck
  | _ => .stuck
def iRg2 (f g : EE) : EL := fun env S => (f env S).bind fun d S => (g env S).bind fun e S => match d, e with
  | .int i, .int j => if (-1000000 ≤ i ∧ i ≤ 1000000) ∧ -1000000 ≤ j ∧ j ≤ 1000000 then .ok (rangeD i (j - i).toNat) S else .stuck
  | _, _ => .stuck
theorem walkD_range {c : Bas} {lo : Int} {n : Nat} (hn : n ≤ 10000000) : WalkD K c (Itr lo n) (rangeD lo n) where
  len := by rw [rangeD_len]; exact Nat.le_trans hn (by decide)
  go := fun i c' S' ad ok hi => by rw [rangeD_len] at hi; exact hi
  stop := fun c' S' ad ok => by rw [rangeD_len]; exact Nat.le_refl n
  yld := fun i c' S' x H' ad ok hi y => by
    obtain ⟨e1, e2⟩ := y
    subst e1 e2
    rw [rangeD_len] at hi
    exact ⟨_, c'.F, rangeD_get hi, Step.refl c', ok, rfl⟩
theorem i_range1 {p : Pos} (hg : Gl X "range") (hm : X.mg "range" = none) (h : PE X e (tD K B f)) (hs : starEach [e] X.env = [(false, eval e X.env)] := by rfl) : PI X tg (.Call (.Name "range" p) [e] [] pos) (tI K B (iRg1 f)) :=
  (pi_range1 hg hm (pa_cons h pa_nil (hs := hs)) hs).imp fun σ H R ⟨F, ι, S, env, st, ds, S', e, q⟩ => by
    obtain ⟨d, S1, e1, e⟩ := Res.bind_ok e
    refine ⟨F, ι, S, env, st, d, S1, e1, fun v c1 s1 o1 r1 => ?_⟩
    cases d with
    | int j =>
      have e' : (if -1000000 ≤ j ∧ j ≤ 1000000 then Res.ok (rangeD 0 j.toNat) S1 else .stuck) = .ok ds S' := e
      split at e'
      · rename_i hj
        cases e'
        exact ⟨j, by rw [show v = V.int j from r1], by omega, by omega, q _ c1 s1 o1 (walkD_range (by omega))⟩
      · cases e'
    | lst b => cases e
    | tup b => cases e
    | non => cases e
    | bl b => cases e
    | str b => cases e
    | mu b => cases e
    | ty b => cases e
theorem i_range2 {p : Pos} (hg : Gl X "range") (hm : X.mg "range" = none) (h : PE X e (tD K B f)) (h2 : PE X e2 (tD K B g)) (hs : starEach [e, e2] X.env = [(false, eval e X.env), (false, eval e2 X.env)] := by rfl) (hs2 : starEach [e2] X.env = [(false, eval e2 X.env)] := by rfl) :
    PI X tg (.Call (.Name "range" p) [e, e2] [] pos) (tI K B (iRg2 f g)) :=
  (pi_range2 hg hm (pa_cons h (pa_cons h2 pa_nil (hs := hs2)) (hs := by rw [hs, hs2])) hs hs2).imp fun σ H R ⟨F, ι, S, env, st, ds, S', e, q⟩ => by
    obtain ⟨d, S1, e1, e⟩ := Res.bind_ok e
    obtain ⟨d2, S2, e2, e⟩ := Res.bind_ok e
    refine ⟨F, ι, S, env, st, d, S1, e1, fun v c1 s1 o1 r1 => ?_⟩
    refine ⟨c1.F, c1.ι, S1, env, st.step s1 o1, d2, S2, e2, fun v2 c2 s2 o2 r2 => ?_⟩
    split at e
    · rename_i i j _
      split at e
      · rename_i hj
        cases e
        exact ⟨i, j, by rw [show v = V.int i from r1, show v2 = V.int j from r2], by omega, q _ c2 (s1.trans s2) o2 (walkD_range (by omega))⟩
      · cases e
    · cases e
end

/-! ### for -/
def forGo (g : GE) (b : SS) : List D → SS
  | [] => fun env S => .ok (.nx env) S
  | d :: ds => fun env S => match g d env with
    | none => .stuck
    | some env1 => (b env1 S).bind fun o S => match o with
      | .nx env2 => forGo g b ds env2 S
      | .ct env2 => forGo g b ds env2 S
      | .bk env2 => .ok (.nx env2) S
      | .rt d => .ok (.rt d) S
def sFor (it : EL) (g : GE) (b : SS) : SS := fun env S => (it env S).bind fun ds S => forGo g b ds env S
section
variable {X : Cx} {K : PySem.W.Frag} {B : Bas} {pos : Pos} {iter tg : Expr} {body : List Stmt} {it : EL} {g : GE} {ts : List Nat} {b : SS}
theorem s_for (hp : PassesOwn (model X.prog X.w) X.A X.env X.xe) (hc : X.calm = true) (hi : PI X tg iter (tI K B it)) (hg : PG X tg (tG K B g ts)) (hb : PSs X body (tK K B b))
    (hs : ∀ x, foldedSetIterable iter X.env x = pure x := by intro _; rfl) : PS X (.For tg iter body [] pos) (tK K B (sFor it g b)) := (ps_for hp hc hi hg hb hs).imp fun E σ H ⟨F, ι, S, env, st, o, S', e, q⟩ => by
  obtain ⟨ds, S1, e1, e⟩ := Res.bind_ok e
  refine ⟨F, ι, S, env, st, ds, S1, e1, fun J c1 s1 o1 wk => ?_⟩
  refine ⟨fun i m σ H => m = ds.length - i ∧ i ≤ ds.length ∧ ∃ F ι Si envi, Stt K B ⟨F, ι, H⟩ Si σ envi ∧ Adv c1 ⟨F, ι, H⟩ ∧ forGo g b (ds.drop i) envi Si = .ok o S' ∧ outK K B ⟨F, ι, H⟩ S' E o,
    ⟨ds.length, by omega, Nat.zero_le _, c1.F, c1.ι, S1, env, st.step s1 o1, Adv.refl c1, e, outK.adv s1.adv q⟩, fun i m σ2 H2 w => ?_⟩
  obtain ⟨rfl, hi, F2, ι2, S2, env2, st2, ad2, e2, q2⟩ := w
  by_cases hlt : i < ds.length
  · refine .inr ⟨wk.go i ⟨F2, ι2, H2⟩ S2 ad2 st2.ok hlt, ?_⟩
    have hd : ds.drop i = ds[i] :: ds.drop (i + 1) := List.drop_eq_getElem_cons hlt
    rw [hd] at e2
    refine ⟨fun σ' H' => i + 1 ≤ ds.length ∧ ∃ F ι Si envi, Stt K B ⟨F, ι, H'⟩ Si σ' envi ∧ Adv c1 ⟨F, ι, H'⟩ ∧ forGo g b (ds.drop (i + 1)) envi Si = .ok o S' ∧ outK K B ⟨F, ι, H'⟩ S' E o, fun σ' H' n => ⟨ds.length - (i + 1), by omega, rfl, n⟩, fun x H' y => ?_⟩
    obtain ⟨d, F3, hd3, s3, o3, r3⟩ := wk.yld i ⟨F2, ι2, H2⟩ S2 x H' ad2 st2.ok hlt y
    have hdi : ds[i] = d := by
      rw [List.getElem?_eq_getElem hlt] at hd3
      exact Option.some.inj hd3
    rw [hdi] at e2
    have e2' : (match g d env2 with
      | none => Res.stuck
      | some env1 => (b env1 S2).bind fun o S => match o with
        | .nx env2 => forGo g b (ds.drop (i + 1)) env2 S
        | .ct env2 => forGo g b (ds.drop (i + 1)) env2 S
        | .bk env2 => .ok (.nx env2) S
        | .rt d => .ok (.rt d) S) = .ok o S' := e2
    split at e2'
    · cases e2'
    · rename_i env3 hg3
      refine ⟨F3, ι2, S2, env2, d, env3, st2.step s3 o3, r3, hg3, fun σ4 st4 _ _ => ?_⟩
      obtain ⟨o5, S5, e5, e6⟩ := Res.bind_ok e2'
      refine ⟨F3, ι2, S2, env3, st4, o5, S5, e5, ?_⟩
      have ad3 : Adv c1 ⟨F3, ι2, H'⟩ := ad2.trans s3.adv
      have q3 : outK K B ⟨F3, ι2, H'⟩ S' E o := outK.adv s3.adv q2
      cases o5 with
      | nx env5 => exact fun σ6 c6 st6 s6 => ⟨hlt, c6.F, c6.ι, S5, env5, st6, ad3.trans s6, e6, outK.adv s6 q3⟩
      | ct env5 => exact fun σ6 c6 st6 s6 => ⟨hlt, c6.F, c6.ι, S5, env5, st6, ad3.trans s6, e6, outK.adv s6 q3⟩
      | bk env5 => cases e6; exact q3
      | rt d5 => cases e6; exact q3
  · have hi' : i = ds.length := by omega
    subst hi'
    rw [List.drop_length] at e2
    cases e2
    exact .inl ⟨wk.stop ⟨F2, ι2, H2⟩ _ ad2 st2.ok, q2 σ2 ⟨F2, ι2, H2⟩ st2 (Adv.refl _)⟩
end

/-! ### comprehensions -/
def compGo (g : GE) (p : ET) (f : EE) (env0 : Env) : List D → Sto → Res (List D)
  | [], S => .ok [] S
  | d :: ds, S => match g d env0 with
    | none => .stuck
    | some env => (p env S).bind fun k S => if k = true then (f env S).bind fun y S => (compGo g p f env0 ds S).bind fun ys S => .ok (y :: ys) S else compGo g p f env0 ds S
def eComp (it : EL) (g : GE) (p : ET) (f : EE) (vs : List Nat) : EL := fun env S => (it env S).bind fun ds S => compGo g p f (wipeE env vs) ds S
def eYes : ET := fun _ S => .ok true S
theorem Stt.wipe {K : PySem.W.Frag} {B c : Bas} {S : Sto} {σ : St} {env : Env} (st : Stt K B c S σ env) (vs : List Nat) : Stt K B c S (L2.wipe σ vs) (wipeE env vs) := ⟨st.ok, st.env.wipe vs, st.st⟩
/-- one clause: the reading -/
theorem lc_of {K : PySem.W.Frag} {B : Bas} {it : EL} {g : GE} {ts vs : List Nat} {p : ET} {f : EE} (hts : ∀ t ∈ ts, t ∈ vs) {σ : St} {H : Hp} {Q : VK} (h : tN K B (eComp it g p f vs) σ H Q) :
    tLc (tI K B it) (tG K B g ts) (tT K B p) (tD K B f) vs σ H Q := by
  obtain ⟨F, ι, S, env, st, ys, S', e, k⟩ := h
  obtain ⟨ds, S1, e1, e⟩ := Res.bind_ok e
  refine ⟨F, ι, S, env, st, ds, S1, e1, fun J c1 s1 o1 wk => fun L hL => ?_⟩
  have nH : H L = none := by
    cases q : H L with
    | none => rfl
    | some o => exact absurd hL (s1.dom L (by show H L ≠ none; rw [q]; exact fun z => by cases z))
  obtain ⟨sn, on, L', vs0, eL, _, hL2, _, _, hF0, hι0⟩ := new_lst (ds := []) (vs := []) o1 hL (Nat.zero_le _) rfl
  cases eL
  refine ⟨fun i m H2 => m = ds.length - i ∧ i ≤ ds.length ∧ ∃ F2 ι2 S2 acc av, Step c1 ⟨F2, ι2, H2⟩ ∧ Sok K ⟨F2, ι2, H2⟩ S2 ∧ LAt ⟨F2, ι2, H2⟩ L (.lst av) ∧ av.length ≤ i ∧ RpAll K F2 ι2 acc av ∧
    ∃ zs, compGo g p f (wipeE env vs) (ds.drop i) S2 = .ok zs S' ∧ acc ++ zs = ys, ⟨ds.length, by omega, Nat.zero_le _, c1.F, c1.ι, S1, [], [], sn, on, ⟨upd_same, hF0, hι0⟩, Nat.le_refl _, rfl, ys, e, rfl⟩, fun i m H2 w => ?_⟩
  obtain ⟨rfl, hi, F2, ι2, S2, acc, av, s2, o2, la, hav, ra, zs, e2, e3⟩ := w
  by_cases hlt : i < ds.length
  · refine .inr ⟨wk.go i ⟨F2, ι2, H2⟩ S2 s2.adv o2 hlt, ?_⟩
    have hd : ds.drop i = ds[i] :: ds.drop (i + 1) := List.drop_eq_getElem_cons hlt
    rw [hd] at e2
    refine ⟨fun H' => i + 1 ≤ ds.length ∧ ∃ F2 ι2 S2 acc av, Step c1 ⟨F2, ι2, H'⟩ ∧ Sok K ⟨F2, ι2, H'⟩ S2 ∧ LAt ⟨F2, ι2, H'⟩ L (.lst av) ∧ av.length ≤ i + 1 ∧ RpAll K F2 ι2 acc av ∧
      ∃ zs, compGo g p f (wipeE env vs) (ds.drop (i + 1)) S2 = .ok zs S' ∧ acc ++ zs = ys, fun H' n => ⟨ds.length - (i + 1), by omega, rfl, n⟩, fun x H' y => ?_⟩
    obtain ⟨d, F3, hd3, s3, o3, r3⟩ := wk.yld i ⟨F2, ι2, H2⟩ S2 x H' s2.adv o2 hlt y
    have hdi : ds[i] = d := by
      rw [List.getElem?_eq_getElem hlt] at hd3
      exact Option.some.inj hd3
    rw [hdi] at e2
    have e2' : (match g d (wipeE env vs) with
      | none => Res.stuck
      | some env => (p env S2).bind fun k S => if k = true then (f env S).bind fun y S => (compGo g p f (wipeE _ vs) (ds.drop (i + 1)) S).bind fun ys S => .ok (y :: ys) S else compGo g p f (wipeE _ vs) (ds.drop (i + 1)) S) = .ok zs S' := e2
    split at e2'
    · cases e2'
    · rename_i env3 hg3
      have st3 : Stt K B ⟨F3, ι2, H'⟩ S2 (wipe σ vs) (wipeE env vs) := ((st.step s1 o1).step (s2.trans s3) o3).wipe vs
      refine ⟨F3, ι2, S2, _, d, env3, st3, r3, hg3, fun σ4 st4 hl4 hf4 => ?_⟩
      have hw : wipe σ4 vs = wipe σ vs := by
        rw [← wipe_idem (σ := σ)]
        exact wipe_eq hl4 fun j hj => hf4 j fun z => hj (hts j z)
      refine ⟨hw, ?_⟩
      obtain ⟨k5, S5, e5, e6⟩ := Res.bind_ok e2'
      refine ⟨F3, ι2, S2, env3, st4, k5, S5, e5, fun c5 s5 o5 => ?_⟩
      have sc5 : Step c1 c5 := (s2.trans s3).trans s5
      have la5 : LAt c5 L (.lst av) := la.step (s3.trans s5)
      cases k5 with
      | true =>
        rw [if_pos rfl] at e6
        obtain ⟨y6, S6, e7, e8⟩ := Res.bind_ok e6
        obtain ⟨ys7, S7, e9, e10⟩ := Res.bind_ok e8
        cases e10
        refine iteT ⟨c5.F, c5.ι, S5, env3, st4.step s5 o5, y6, S6, e7, fun v6 c6 s6 o6 r6 => ?_⟩
        have la6 : LAt c6 L (.lst av) := la5.step s6
        refine ⟨av, la6.1, Nat.lt_of_le_of_lt hav (Nat.lt_of_lt_of_le hlt wk.len), hlt, c6.F, c6.ι, S6, acc ++ [y6], av ++ [v6], (sc5.trans s6).upd_new hL, o6.upd la6.2.1 la6.2.2, ⟨upd_same, la6.2⟩, by rw [List.length_append]; exact Nat.succ_le_succ hav, ?_, ys7, e9, by rw [← e3]; simp⟩
        exact (s6.rpAll (s5.rpAll (s3.rpAll ra))).snoc r6
      | false =>
        rw [if_neg Bool.false_ne_true] at e6
        exact iteF ⟨hlt, c5.F, c5.ι, S5, acc, av, sc5, o5, la5, Nat.le_succ_of_le hav, s5.rpAll (s3.rpAll ra), zs, e6, e3⟩
  · have hi' : i = ds.length := by omega
    subst hi'
    rw [List.drop_length] at e2
    cases e2
    rw [List.append_nil] at e3
    subst e3
    exact .inl ⟨wk.stop ⟨F2, ι2, H2⟩ _ s2.adv o2, k _ ⟨F2, ι2, H2⟩ (s1.trans s2) o2 ⟨L, av, rfl, nH, la.1, Nat.le_trans hav wk.len, ra, la.2.1, la.2.2⟩⟩
section
variable {X : Cx} {K : PySem.W.Frag} {B : Bas}
theorem ts_nil : PTs X [] (tT K B eYes) := ⟨fun pins s σ H Q I ⟨F, ι, S, env, st, b, S', e, q⟩ => by
  cases e
  exact pts_nil.run pins s σ H Q I (q _ (Step.refl _) st.ok)⟩
theorem ts_one {c : Expr} {p : ET} (h : PT X c (tT K B p)) : PTs X [c] (tT K B p) := pts_one h
variable {elt tg iter : Expr} {ifs : List Expr} {scope : Scope} {own : List (Str × Nat)} {pos : Pos} {it : EL} {g : GE} {ts : List Nat} {p : ET} {f : EE}
theorem n_lc (hc : X.calm = true) (hN : X.N.Nodup) (hi : PI X tg iter (tI K B it)) (ok : BlkOk X.N X.env.scope scope own)
    (hg : ∀ (s : Shared) (H : Hp) (C : Addr) (cl : List (Str × Addr)) (fp : List Addr), PG (X.blk s H scope (compEnvC scope cl C X.env) fp) tg (tG K B g ts)) (ht : ∀ (s : Shared) (H : Hp) (C : Addr) (cl : List (Str × Addr)) (fp : List Addr), PTs (X.blk s H scope (compEnvC scope cl C X.env) fp) ifs (tT K B p))
    (he : ∀ (s : Shared) (H : Hp) (C : Addr) (cl : List (Str × Addr)) (fp : List Addr), PE (X.blk s H scope (compEnvC scope cl C X.env) fp) elt (tD K B f)) (hts : ∀ t ∈ ts, t ∈ own.map (·.2)) (hs : ∀ x, foldedSetIterable iter X.env x = pure x := by intro _; rfl) :
    PE X (.ListComp elt [⟨tg, iter, ifs, 0⟩] scope pos) (tN K B (eComp it g p f (own.map (·.2)))) :=
  (pe_lc hc hN hi ok hg ht he hs).imp fun σ H Q h => lc_of hts h
theorem s_newLc {i : Nat} {y : Str} {py : Pos} {spos : Pos} (hc : X.calm = true) (hN : X.N.Nodup) (hy : X.N[i]? = some y) (hyl : X.env.scope.names.lookup y = some .local)
    (hsw : swapsWith (.ListComp elt [⟨tg, iter, ifs, 0⟩] scope pos) (some (.Name y py)) spos.line X.env = pure true) (hi : PI X tg iter (tI K B it)) (ok : BlkOk X.N X.env.scope scope own)
    (hg : ∀ (s : Shared) (H : Hp) (C : Addr) (cl : List (Str × Addr)) (fp : List Addr), PG (X.blk s H scope (compEnvC scope cl C X.env) fp) tg (tG K B g ts)) (ht : ∀ (s : Shared) (H : Hp) (C : Addr) (cl : List (Str × Addr)) (fp : List Addr), PTs (X.blk s H scope (compEnvC scope cl C X.env) fp) ifs (tT K B p))
    (he : ∀ (s : Shared) (H : Hp) (C : Addr) (cl : List (Str × Addr)) (fp : List Addr), PE (X.blk s H scope (compEnvC scope cl C X.env) fp) elt (tD K B f)) (hts : ∀ t ∈ ts, t ∈ own.map (·.2)) (hs : ∀ x, foldedSetIterable iter X.env x = pure x := by intro _; rfl) :
    PS X (.Assign [.Name y py] (.ListComp elt [⟨tg, iter, ifs, 0⟩] scope pos) spos) (tAsg (tN K B (eComp it g p f (own.map (·.2)))) (gName i)) :=
  (ps_setLc hc hN hy hyl hsw hi ok hg ht he hs).imp fun E σ H h => lc_of (Q := fun x H1 => gName i x σ H1 E.nx) hts h
end

/-! ### defs -/
def spD (K : PySem.W.Frag) (n : Nat) (φ : List D → Sto → Res D) : Sp := fun vs H Q E => vs.length = n ∧ ∃ F ι S ds, Sok K ⟨F, ι, H⟩ S ∧ RpAll K F ι ds vs ∧ ∃ d S', φ ds S = .ok d S' ∧
  ∀ v c', Step ⟨F, ι, H⟩ c' → Sok K c' S' → Rp K c'.F c'.ι d v → Q v c'.H
def startE (N : Nat) (ds : List D) : Env := ds.map (fun d => some (.sh d)) ++ List.replicate (N - ds.length) none
def runD (N : Nat) (b : SS) : List D → Sto → Res D := fun ds S => match b (startE N ds) S with
  | .ok (.rt d) S' => .ok d S'
  | .ok (.nx _) S' => .ok .non S'
  | _ => .stuck
theorem start_ok {K : PySem.W.Frag} {c : Bas} {S : Sto} {N : List Str} {ds : List D} {vs : List V} (ok : Sok K c S) (r : RpAll K c.F c.ι ds vs) : Stt K c c S (L2.start N vs) (startE N.length ds) := by
  have hl := r.len
  refine ⟨ok, ⟨?_, fun i x e => ?_, fun i j es fs e1 e2 _ => ?_⟩, Step.refl c⟩
  · unfold startE L2.start
    rw [List.length_append, List.length_append, List.length_map, List.length_map, List.length_replicate, List.length_replicate, hl]
  · unfold startE at e
    by_cases hi : i < ds.length
    · rw [List.getElem?_append_left (by rw [List.length_map]; exact hi), List.getElem?_map, List.getElem?_eq_getElem hi] at e
      cases e
      obtain ⟨v, h1, h2⟩ := r.get (List.getElem?_eq_getElem hi)
      refine ⟨v, ?_, h2⟩
      unfold L2.start
      rw [List.getElem?_append_left (by rw [List.length_map, hl]; exact hi), List.getElem?_map, h1]
      rfl
    · rw [List.getElem?_append_right (by rw [List.length_map]; omega), List.getElem?_replicate] at e
      split at e <;> cases e
  · unfold startE at e1
    by_cases hi : i < ds.length
    · rw [List.getElem?_append_left (by rw [List.length_map]; exact hi), List.getElem?_map, List.getElem?_eq_getElem hi] at e1
      cases e1
    · rw [List.getElem?_append_right (by rw [List.length_map]; omega), List.getElem?_replicate] at e1
      split at e1 <;> cases e1
section
variable {P : Program} {w : World} {K : PySem.W.Frag} {mg : Str → Option Value} {base : Heap}
theorem fn_data {x qual : Str} {st : Stmt} {f : Addr} {fd : FuncData} {N ps : List Str} {k : Nat} {b : SS} (F : Fun K x qual st f fd) (S : FnScope N ps (defScope st))
    (hb : ∀ (cdv : Value) (A : Around) (outer : List PySem.Env) (s : Shared) (H : Hp) (E : XK) (B : Bas), Room k (A.deeper (envOfC qual (defScope st) s.heap.objs.size f cdv)) →
      PSs (cxOf CX0 P w K mg base N qual (defScope st) f cdv A outer s H E).nox (defBody st) (tK K B b)) : FnOk P w K mg base CX0 (k + 1) f fd ps (spD K ps.length (runD N.length b)) := by
  refine F.ok S (fun vs H Q E h => h.1) (fun cdv A outer s H vs Q E hr h => ?_)
  obtain ⟨hl, F0, ι, S0, ds, ok, r, d, S', e, q⟩ := h
  refine ⟨_, hb cdv A outer s H E ⟨F0, ι, H⟩ hr, F0, ι, S0, _, start_ok ok r, ?_⟩
  unfold runD at e
  split at e
  · rename_i d' S'' e1
    cases e
    exact ⟨_, _, e1, fun v c' s o r => q v c' s o r⟩
  · rename_i env' S'' e1
    cases e
    exact ⟨_, _, e1, fun σ' c' st ad => q .non c' st.st st.ok rfl⟩
  · cases e
end
def eCall (φ : List D → Sto → Res D) (l : EL) : EE := fun env S => (l env S).bind fun ds S => φ ds S
section
variable {X : Cx} {k n : Nat} {f : Addr} {fd : FuncData} {ps : List Str} {x : Str} {p pos : Pos} {e : Expr} {es : List Expr} {K : PySem.W.Frag} {B : Bas} {φ : List D → Sto → Res D} {l : EL}
theorem RpAll.len' {F : Hp} {ι : List Addr} {ds : List D} {vs : List V} (h : RpAll K F ι ds vs) : ds.length = vs.length := h.len.symm
theorem d_call (F : FnOk X.prog X.w X.K X.mg X.base CX0 k f fd ps (spD K n φ)) (hr : Room k X.A) (hg : Gl X x) (hm : X.mg x = some (.ref f)) (hk : PySem.W.keepIn X.K (.ref f) = true) (hb : Binds X.K fd ps [])
    (ha : PA X (e :: es) (tA K B l)) (hn : (e :: es).length = n) (hla : ∀ env S ds S', l env S = .ok ds S' → ds.length = (e :: es).length) (hdb : (x == ("__debug__" : Str)) = false := by decide) (he : starEach (e :: es) X.env = (false, eval e X.env) :: starEach es X.env := by rfl) (hpl : (backTo pos (starEach es X.env)).any (·.1) = false := by rfl) :
    PE X (.Call (.Name x p) (e :: es) [] pos) (tD K B (eCall φ l)) := (pe_call (E := E0) F hr hg hm hk hb .nil pass0 ha hdb he hpl).imp fun σ H Q ⟨F, ι, S, env, st, d, S', e, q⟩ => by
  obtain ⟨ds, S1, e1, e⟩ := Res.bind_ok e
  refine ⟨F, ι, S, env, st, ds, S1, e1, fun vs c1 s1 o1 r1 => ?_⟩
  show spD K n φ (vs ++ []) c1.H Q E0
  rw [List.append_nil]
  exact ⟨by rw [r1.len, hla _ _ _ _ e1, hn], c1.F, c1.ι, S1, ds, o1, r1, d, S', e, fun v c' s o r => q v c' (s1.trans s) o r⟩
theorem eNil_len {env : Env} {S S' : Sto} {ds : List D} (h : eNil env S = .ok ds S') : ds.length = 0 := by cases h; rfl
theorem eCons_len {f : EE} {l : EL} {n : Nat} (h : ∀ env S ds S', l env S = .ok ds S' → ds.length = n) : ∀ env S ds S', eCons f l env S = .ok ds S' → ds.length = n + 1 := fun env S ds S' e => by
  obtain ⟨x, S1, e1, e⟩ := Res.bind_ok e
  obtain ⟨xs, S2, e2, e⟩ := Res.bind_ok e
  cases e
  rw [List.length_cons, h _ _ _ _ e2]
end
end DL

/-! DL5: built-in functions, slices, + of lists. -/
namespace DL
open PySem PySem.Spec PyProof.Rows L2

abbrev OpA := List D → Sto → Res D
abbrev OpN := List D → Sto → Res (List D)
def CallD (K : PySem.W.Frag) (r : List V → Hp → VK → Prop) (op : OpA) : Prop := ∀ (B : Hp) (c : Bas) (S S' : Sto) (vs : List V) (ds : List D) (d : D), Sok K c S → RbAll K B c ds vs → op ds S = .ok d S' →
  ∀ Q : VK, (∀ v c', Step c c' → Sok K c' S' → Rp K c'.F c'.ι d v → Q v c'.H) → r vs c.H Q
def CallN (K : PySem.W.Frag) (r : List V → Hp → VK → Prop) (op : OpN) : Prop := ∀ (B : Hp) (c : Bas) (S S' : Sto) (vs : List V) (ds : List D) (es : List D), Sok K c S → RbAll K B c ds vs → op ds S = .ok es S' →
  ∀ Q : VK, (∀ v c', Step c c' → Sok K c' S' → NewAt K c c' es v → Q v c'.H) → r vs c.H Q
def eBlt (op : OpA) (l : EL) : EE := fun env S => (l env S).bind fun ds S => op ds S
def eBltN (op : OpN) (l : EL) : EL := fun env S => (l env S).bind fun ds S => op ds S
theorem NewAt.from {K : PySem.W.Frag} {a b c : Bas} {ds : List D} {v : V} (s : Step a b) (n : NewAt K b c ds v) : NewAt K a c ds v := by
  obtain ⟨p, vs, e, h1, h2, h3, h4, h5, h6⟩ := n
  refine ⟨p, vs, e, ?_, h2, h3, h4, h5, h6⟩
  cases q : a.H p with
  | none => rfl
  | some o => exact absurd h1 (s.dom p (by rw [q]; exact fun z => by cases z))
section
variable {X : Cx} {K : PySem.W.Frag} {B : Bas} {x : Str} {p pos : Pos} {e : Expr} {es : List Expr} {l : EL} {id T : String} {r : List V → Hp → VK → Prop}
theorem cb_of {op : OpA} (cd : CallD K r op) {σ : St} {H : Hp} {Q : VK} (h : tD K B (eBlt op l) σ H Q) : tCB r (tAB K B l) σ H Q := by
  obtain ⟨F, ι, S, env, st, d, S', e, q⟩ := h
  obtain ⟨ds, S1, e1, e⟩ := Res.bind_ok e
  refine ⟨F, ι, S, env, st, ds, S1, e1, fun vs c1 s1 o1 r1 => ?_⟩
  exact cd B.H c1 S1 S' vs ds d o1 r1 e Q fun v c' s o r => q v c' (s1.trans s) o r
theorem cbn_of {op : OpN} (cd : CallN K r op) {σ : St} {H : Hp} {Q : VK} (h : tN K B (eBltN op l) σ H Q) : tCB r (tAB K B l) σ H Q := by
  obtain ⟨F, ι, S, env, st, d, S', e, q⟩ := h
  obtain ⟨ds, S1, e1, e⟩ := Res.bind_ok e
  refine ⟨F, ι, S, env, st, ds, S1, e1, fun vs c1 s1 o1 r1 => ?_⟩
  exact cd B.H c1 S1 S' vs ds d o1 r1 e Q fun v c' s o n => q v c' (s1.trans s) o (n.from s1)
theorem d_callB {op : OpA} (hc : CallR X (.builtin id) r) (cd : CallD K r op) (hg : Gl X x) (hm : X.mg x = none) (hv : bootBuiltins x = some (.builtin id)) (ha : PA X (e :: es) (tAB K B l)) (hn : x ≠ "__name__" := by decide) (hdb : (x == ("__debug__" : Str)) = false := by decide)
    (he : starEach (e :: es) X.env = (false, eval e X.env) :: starEach es X.env := by rfl) (hpl : (backTo pos (starEach es X.env)).any (·.1) = false := by rfl) : PE X (.Call (.Name x p) (e :: es) [] pos) (tD K B (eBlt op l)) :=
  (pe_callB hc hg hm hv ha hn hdb he hpl).imp fun _ _ _ h => cb_of cd h
theorem d_callTy {op : OpA} (hc : CallR X (.type T) r) (cd : CallD K r op) (hg : Gl X x) (hm : X.mg x = none) (hv : bootBuiltins x = some (.type T)) (ha : PA X (e :: es) (tAB K B l)) (hn : x ≠ "__name__" := by decide) (hdb : (x == ("__debug__" : Str)) = false := by decide)
    (he : starEach (e :: es) X.env = (false, eval e X.env) :: starEach es X.env := by rfl) (hpl : (backTo pos (starEach es X.env)).any (·.1) = false := by rfl) : PE X (.Call (.Name x p) (e :: es) [] pos) (tD K B (eBlt op l)) :=
  (pe_callTy hc hg hm hv ha hn hdb he hpl).imp fun _ _ _ h => cb_of cd h
theorem n_callB {op : OpN} (hc : CallR X (.builtin id) r) (cd : CallN K r op) (hg : Gl X x) (hm : X.mg x = none) (hv : bootBuiltins x = some (.builtin id)) (ha : PA X (e :: es) (tAB K B l)) (hn : x ≠ "__name__" := by decide) (hdb : (x == ("__debug__" : Str)) = false := by decide)
    (he : starEach (e :: es) X.env = (false, eval e X.env) :: starEach es X.env := by rfl) (hpl : (backTo pos (starEach es X.env)).any (·.1) = false := by rfl) : PE X (.Call (.Name x p) (e :: es) [] pos) (tN K B (eBltN op l)) :=
  (pe_callB hc hg hm hv ha hn hdb he hpl).imp fun _ _ _ h => cbn_of cd h
theorem n_callTy {op : OpN} (hc : CallR X (.type T) r) (cd : CallN K r op) (hg : Gl X x) (hm : X.mg x = none) (hv : bootBuiltins x = some (.type T)) (ha : PA X (e :: es) (tAB K B l)) (hn : x ≠ "__name__" := by decide) (hdb : (x == ("__debug__" : Str)) = false := by decide)
    (he : starEach (e :: es) X.env = (false, eval e X.env) :: starEach es X.env := by rfl) (hpl : (backTo pos (starEach es X.env)).any (·.1) = false := by rfl) : PE X (.Call (.Name x p) (e :: es) [] pos) (tN K B (eBltN op l)) :=
  (pe_callTy hc hg hm hv ha hn hdb he hpl).imp fun _ _ _ h => cbn_of cd h
end

/-! ### len, int, abs, max, min of two -/
def bLen : OpA := fun ds S => match ds with
  | [.lst xs] => .ok (.int xs.length) S
  | [.tup xs] => .ok (.int xs.length) S
  | [.mu n] => (match S[n]? with
    | some xs => .ok (.int xs.length) S
    | none => .stuck)
  | _ => .stuck
def bInt : OpA := fun ds S => match ds with
  | [.int i] => .ok (.int i) S
  | [.bl b] => .ok (.int (if b then 1 else 0)) S
  | _ => .stuck
def bAbs : OpA := fun ds S => match ds with
  | [.int i] => .ok (.int (if i < 0 then -i else i)) S
  | _ => .stuck
def bMax2 : OpA := fun ds S => match ds with
  | [.int i, .int j] => .ok (.int (if j > i then j else i)) S
  | _ => .stuck
def bMin2 : OpA := fun ds S => match ds with
  | [.int i, .int j] => .ok (.int (if j < i then j else i)) S
  | _ => .stuck
theorem RbAll.one {K : PySem.W.Frag} {B : Hp} {c : Bas} {d : D} {vs : List V} (h : RbAll K B c [d] vs) : ∃ v, vs = [v] ∧ Rb K B c d v := by
  obtain ⟨v, r, e, h1, h2⟩ := h
  have h2' : r = [] := h2
  subst h2'
  exact ⟨v, e, h1⟩
theorem RbAll.two {K : PySem.W.Frag} {B : Hp} {c : Bas} {d d' : D} {vs : List V} (h : RbAll K B c [d, d'] vs) : ∃ v w, vs = [v, w] ∧ Rb K B c d v ∧ Rb K B c d' w := by
  obtain ⟨v, r, e, h1, w, r', e', h2, h3⟩ := h
  have h3' : r' = [] := h3
  subst h3' e'
  exact ⟨v, w, e, h1, h2⟩
section
variable {K : PySem.W.Frag}
theorem cd_len : CallD K (fun xs H Q => ∃ p ys, xs = [.ref p] ∧ (SqL K H p ys ∨ SqT K H p ys) ∧ Q (.int ys.length) H) bLen := by
  intro B c S S' vs ds d ok r e Q q
  unfold bLen at e
  split at e
  · cases e
    obtain ⟨v, rfl, h⟩ := r.one
    obtain ⟨a, ws, rfl, h1, _, h2⟩ := h.lst ok
    exact ⟨a, ws, rfl, .inl h1, q _ c (Step.refl c) ok (by show _ = _; rw [h2.len])⟩
  · cases e
    obtain ⟨v, rfl, h⟩ := r.one
    obtain ⟨a, ws, rfl, h1, _, h2⟩ := h.tup ok
    exact ⟨a, ws, rfl, .inr h1, q _ c (Step.refl c) ok (by show _ = _; rw [h2.len])⟩
  · split at e
    · rename_i xs hx
      cases e
      obtain ⟨v, rfl, h⟩ := r.one
      obtain ⟨a, ws, rfl, _, h1, _, h2⟩ := h.mu ok hx
      exact ⟨a, ws, rfl, .inl (SqL.of h1), q _ c (Step.refl c) ok (by show _ = _; rw [h2.len])⟩
    · cases e
  · cases e
theorem cd_int : CallD K (fun xs H Q => (∃ i, xs = [.int i] ∧ Q (.int i) H) ∨ ∃ k, xs = [.bl k] ∧ Q (.int (if k then 1 else 0)) H) bInt := by
  intro B c S S' vs ds d ok r e Q q
  unfold bInt at e
  split at e
  · cases e
    obtain ⟨v, rfl, h⟩ := r.one
    exact .inl ⟨_, by rw [h.int], q _ c (Step.refl c) ok rfl⟩
  · cases e
    obtain ⟨v, rfl, h⟩ := r.one
    exact .inr ⟨_, by rw [h.bl], q _ c (Step.refl c) ok rfl⟩
  · cases e
theorem cd_abs : CallD K (fun xs H Q => ∃ i, xs = [.int i] ∧ Q (.int (if i < 0 then -i else i)) H) bAbs := by
  intro B c S S' vs ds d ok r e Q q
  unfold bAbs at e
  split at e
  · cases e
    obtain ⟨v, rfl, h⟩ := r.one
    exact ⟨_, by rw [h.int], q _ c (Step.refl c) ok rfl⟩
  · cases e
theorem cd_max2 : CallD K (fun xs H Q => ∃ i j, xs = [.int i, .int j] ∧ Q (.int (if j > i then j else i)) H) bMax2 := by
  intro B c S S' vs ds d ok r e Q q
  unfold bMax2 at e
  split at e
  · cases e
    obtain ⟨v, w, rfl, h, h'⟩ := r.two
    exact ⟨_, _, by rw [h.int, h'.int], q _ c (Step.refl c) ok rfl⟩
  · cases e
theorem cd_min2 : CallD K (fun xs H Q => ∃ i j, xs = [.int i, .int j] ∧ Q (.int (if j < i then j else i)) H) bMin2 := by
  intro B c S S' vs ds d ok r e Q q
  unfold bMin2 at e
  split at e
  · cases e
    obtain ⟨v, w, rfl, h, h'⟩ := r.two
    exact ⟨_, _, by rw [h.int, h'.int], q _ c (Step.refl c) ok rfl⟩
  · cases e

/-! ### tuple(x), list(x) -/
def bTuple : OpA := fun ds S => match ds with
  | [.lst xs] => .ok (.tup xs) S
  | [.tup xs] => .ok (.tup xs) S
  | _ => .stuck
def bList : OpN := fun ds S => match ds with
  | [.lst xs] => .ok xs S
  | [.tup xs] => .ok xs S
  | _ => .stuck
theorem cd_tuple : CallD K (fun xs H Q => ∃ p ys, xs = [.ref p] ∧ ((SqL K H p ys ∧ ∀ l, H l = none → Q (.ref l) (upd H l (.tup ys))) ∨ (SqT K H p ys ∧ Q (.ref p) H))) bTuple := by
  intro B c S S' vs ds d ok r e Q q
  unfold bTuple at e
  split at e
  · cases e
    obtain ⟨v, rfl, h⟩ := r.one
    obtain ⟨a, ws, rfl, h1, hl, h2⟩ := h.lst ok
    refine ⟨a, ws, rfl, .inl ⟨h1, fun l hn => ?_⟩⟩
    obtain ⟨s2, o2, r2⟩ := new_tup ok hn hl h2
    exact q _ ⟨_, _, _⟩ s2 o2 r2
  · cases e
    obtain ⟨v, rfl, h⟩ := r.one
    obtain ⟨a, ws, e1, h1, hl, h2⟩ := h.tup ok
    subst e1
    refine ⟨a, ws, rfl, .inr ⟨h1, q _ c (Step.refl c) ok ?_⟩⟩
    rcases h with h | ⟨_, z, _⟩
    · exact h
    · cases z
  · cases e
theorem cn_list : CallN K (fun xs H Q => ∃ p ys, xs = [.ref p] ∧ (SqL K H p ys ∨ SqT K H p ys) ∧ ∀ l, H l = none → Q (.ref l) (upd H l (.lst ys))) bList := by
  intro B c S S' vs ds d ok r e Q q
  unfold bList at e
  split at e
  · cases e
    obtain ⟨v, rfl, h⟩ := r.one
    obtain ⟨a, ws, rfl, h1, hl, h2⟩ := h.lst ok
    refine ⟨a, ws, rfl, .inl h1, fun l hn => ?_⟩
    obtain ⟨s2, o2, n2⟩ := new_lst ok hn hl h2
    exact q _ ⟨_, _, _⟩ s2 o2 n2
  · cases e
    obtain ⟨v, rfl, h⟩ := r.one
    obtain ⟨a, ws, rfl, h1, hl, h2⟩ := h.tup ok
    refine ⟨a, ws, rfl, .inr h1, fun l hn => ?_⟩
    obtain ⟨s2, o2, n2⟩ := new_lst ok hn hl h2
    exact q _ ⟨_, _, _⟩ s2 o2 n2
  · cases e

/-! ### any, all of a list of truth values -/
def allBl : List D → Option (List Bool)
  | [] => some []
  | .bl b :: r => (allBl r).map (b :: ·)
  | _ :: _ => none
theorem allBl_map : ∀ {ds : List D} {bs : List Bool}, allBl ds = some bs → ds = bs.map D.bl
  | [], bs, h => by cases h; rfl
  | .bl b :: r, bs, h => by
    obtain ⟨cs, h1, h2⟩ := Option.map_eq_some_iff.mp (show (allBl r).map (b :: ·) = some bs from h)
    subst h2
    rw [allBl_map h1]
    rfl
  | .non :: _, _, h => by cases h
  | .int _ :: _, _, h => by cases h
  | .str _ :: _, _, h => by cases h
  | .lst _ :: _, _, h => by cases h
  | .tup _ :: _, _, h => by cases h
  | .mu _ :: _, _, h => by cases h
  | .ty _ :: _, _, h => by cases h
theorem allBl_of : ∀ bs : List Bool, allBl (bs.map D.bl) = some bs
  | [] => rfl
  | b :: r => by show (allBl (r.map D.bl)).map (b :: ·) = _; rw [allBl_of r]; rfl
theorem RpAll.bls {F : Hp} {ι : List Addr} : ∀ {bs : List Bool} {vs : List V}, RpAll K F ι (bs.map D.bl) vs → vs = bs.map V.bl
  | [], _, h => h
  | b :: r, _, ⟨v, w, e, h1, h2⟩ => by
    have h1' : v = .bl b := h1
    rw [e, h1', RpAll.bls h2]
    rfl
def bAny : OpA := fun ds S => match ds with
  | [.lst xs] => (match allBl xs with
    | some bs => .ok (.bl (bs.any id)) S
    | none => .stuck)
  | _ => .stuck
def bAll : OpA := fun ds S => match ds with
  | [.lst xs] => (match allBl xs with
    | some bs => .ok (.bl (bs.all id)) S
    | none => .stuck)
  | _ => .stuck
theorem cd_any : CallD K (rAny K) bAny := by
  intro B c S S' vs ds d ok r e Q q
  unfold bAny at e
  split at e
  · split at e
    · rename_i bs hb
      cases e
      obtain ⟨v, rfl, h⟩ := r.one
      obtain ⟨a, ws, rfl, h1, hl, h2⟩ := h.lst ok
      have h3 := allBl_map hb
      subst h3
      rw [h2.bls] at h1
      exact ⟨a, bs, rfl, h1, q _ c (Step.refl c) ok rfl⟩
    · cases e
  · cases e
theorem cd_all : CallD K (rAll K) bAll := by
  intro B c S S' vs ds d ok r e Q q
  unfold bAll at e
  split at e
  · split at e
    · rename_i bs hb
      cases e
      obtain ⟨v, rfl, h⟩ := r.one
      obtain ⟨a, ws, rfl, h1, hl, h2⟩ := h.lst ok
      have h3 := allBl_map hb
      subst h3
      rw [h2.bls] at h1
      exact ⟨a, bs, rfl, h1, q _ c (Step.refl c) ok rfl⟩
    · cases e
  · cases e

/-! ### max, min of a list or a tuple of ints; min(.., default=..) -/
def allInt : List D → Option (List Int)
  | [] => some []
  | .int b :: r => (allInt r).map (b :: ·)
  | _ :: _ => none
theorem allInt_map : ∀ {ds : List D} {bs : List Int}, allInt ds = some bs → ds = bs.map D.int
  | [], bs, h => by cases h; rfl
  | .int b :: r, bs, h => by
    obtain ⟨cs, h1, h2⟩ := Option.map_eq_some_iff.mp (show (allInt r).map (b :: ·) = some bs from h)
    subst h2
    rw [allInt_map h1]
    rfl
  | .non :: _, _, h => by cases h
  | .bl _ :: _, _, h => by cases h
  | .str _ :: _, _, h => by cases h
  | .lst _ :: _, _, h => by cases h
  | .tup _ :: _, _, h => by cases h
  | .mu _ :: _, _, h => by cases h
  | .ty _ :: _, _, h => by cases h
theorem allInt_of : ∀ bs : List Int, allInt (bs.map D.int) = some bs
  | [] => rfl
  | b :: r => by show (allInt (r.map D.int)).map (b :: ·) = _; rw [allInt_of r]; rfl
theorem RpAll.ints {F : Hp} {ι : List Addr} : ∀ {bs : List Int} {vs : List V}, RpAll K F ι (bs.map D.int) vs → vs = bs.map V.int
  | [], _, h => h
  | b :: r, _, ⟨v, w, e, h1, h2⟩ => by
    have h1' : v = .int b := h1
    rw [e, h1', RpAll.ints h2]
    rfl
theorem toPy_ints : ∀ ns : List Int, toPyAll (ns.map D.int) = ns.map PyData.int
  | [] => rfl
  | n :: r => by show toPy (.int n) :: toPyAll (r.map D.int) = _; rw [toPy_ints r]; rfl
def seqAny : D → Option (List D)
  | .lst xs => some xs
  | .tup xs => some xs
  | _ => none
def bMax : OpA := fun ds S => match ds with
  | [x] => (match (seqAny x).bind allInt with
    | some (n :: ns) => .ok (.int (ns.foldl max n)) S
    | _ => .stuck)
  | _ => .stuck
def bMin : OpA := fun ds S => match ds with
  | [x] => (match (seqAny x).bind allInt with
    | some (n :: ns) => .ok (.int (ns.foldl min n)) S
    | _ => .stuck)
  | _ => .stuck
def rSeqI (K : PySem.W.Frag) (g : Int → List Int → Int) : List V → Hp → VK → Prop := fun vs H Q => ∃ (a : Addr) (n : Int) (ns : List Int), vs = [V.ref a] ∧ (SqL K H a ((n :: ns).map V.int) ∨ SqT K H a ((n :: ns).map V.int)) ∧ Q (.int (g n ns)) H
theorem readsAll_ints {h : Heap} : ∀ {its : List Value} {ns : List Int}, Vals (ns.map V.int) its → ReadsAll h its (ns.map PyData.int) []
  | _, [], r => by cases r; exact .nil
  | _, n :: ns, r => by
    cases r with
    | cons r1 r2 =>
      obtain ⟨t, rfl⟩ := r1
      exact .cons (as := []) (bs := []) (Reads.int n t) (readsAll_ints r2)
theorem alike_ints (n : Int) (ns : List Int) : PySem.W.AlikeAll ((n :: ns).map PyData.int) := by
  refine ⟨fun x hx y hy => ?_, fun x hx z => ?_⟩
  · obtain ⟨i, _, rfl⟩ := List.mem_map.mp hx
    obtain ⟨j, _, rfl⟩ := List.mem_map.mp hy
    simp only [PySem.W.alike]
  · obtain ⟨i, _, rfl⟩ := List.mem_map.mp hx
    cases z
theorem depth_ints : ∀ ns : List Int, PyData.depthAll (ns.map PyData.int) = 0
  | [] => rfl
  | n :: r => by
    show max (PyData.depth (.int n)) (PyData.depthAll (r.map PyData.int)) = 0
    rw [depth_ints r]
    rfl
theorem of_reads_int {h : Heap} {v : Value} {i : Int} {bs : List Addr} (r : Reads h v (.int i) bs) : ∃ t, v = .int i t := by
  cases r
  exact ⟨_, rfl⟩
variable {X : Cx}
theorem cr_maxI (hc : X.calm = true) (hu : X.A.units + 64 < cLine) : CallR X (.builtin "max") (rSeqI X.K fun n ns => ns.foldl max n) := by
  intro pins s σ H vs us Q I r h
  obtain ⟨a, n, ns, rfl, hs, q⟩ := h
  rw [Vals.ref1 r]
  rcases hs with hs | hs
  · obtain ⟨its, rv, hl, _⟩ := I.list hs
    refine PySem.W.max_list_data (I.ok.hd hc) hl.isList (x := .int n) (xs := ns.map .int) (as := []) (readsAll_ints rv) (alike_ints n ns) (by rw [show (PyData.int n :: ns.map PyData.int) = (n :: ns).map PyData.int from rfl, depth_ints]; omega) fun i v h' tk bs hv hr hk => ?_
    rw [PySem.W.maxD_ints] at hr
    obtain ⟨t, rfl⟩ := of_reads_int hr
    exact ⟨.int _, H, I.kept hk, ⟨t, rfl⟩, q⟩
  · obtain ⟨its, rv, hl, _⟩ := I.tuple hs
    refine PySem.W.max_tuple_data (I.ok.hd hc) (show s.heap.IsTuple a its.toArray from hl) (x := .int n) (xs := ns.map .int) (as := []) (readsAll_ints rv) (alike_ints n ns) (by rw [show (PyData.int n :: ns.map PyData.int) = (n :: ns).map PyData.int from rfl, depth_ints]; omega) fun i v h' tk bs hv hr hk => ?_
    rw [PySem.W.maxD_ints] at hr
    obtain ⟨t, rfl⟩ := of_reads_int hr
    exact ⟨.int _, H, I.kept hk, ⟨t, rfl⟩, q⟩
theorem cr_minI (hc : X.calm = true) (hu : X.A.units + 64 < cLine) : CallR X (.builtin "min") (rSeqI X.K fun n ns => ns.foldl min n) := by
  intro pins s σ H vs us Q I r h
  obtain ⟨a, n, ns, rfl, hs, q⟩ := h
  rw [Vals.ref1 r]
  rcases hs with hs | hs
  · obtain ⟨its, rv, hl, _⟩ := I.list hs
    refine PySem.W.min_list_data (I.ok.hd hc) hl.isList (x := .int n) (xs := ns.map .int) (as := []) (readsAll_ints rv) (alike_ints n ns) (by rw [show (PyData.int n :: ns.map PyData.int) = (n :: ns).map PyData.int from rfl, depth_ints]; omega) fun i v h' tk bs hv hr hk => ?_
    rw [PySem.W.minD_ints] at hr
    obtain ⟨t, rfl⟩ := of_reads_int hr
    exact ⟨.int _, H, I.kept hk, ⟨t, rfl⟩, q⟩
  · obtain ⟨its, rv, hl, _⟩ := I.tuple hs
    refine PySem.W.min_tuple_data (I.ok.hd hc) (show s.heap.IsTuple a its.toArray from hl) (x := .int n) (xs := ns.map .int) (as := []) (readsAll_ints rv) (alike_ints n ns) (by rw [show (PyData.int n :: ns.map PyData.int) = (n :: ns).map PyData.int from rfl, depth_ints]; omega) fun i v h' tk bs hv hr hk => ?_
    rw [PySem.W.minD_ints] at hr
    obtain ⟨t, rfl⟩ := of_reads_int hr
    exact ⟨.int _, H, I.kept hk, ⟨t, rfl⟩, q⟩
theorem Rb.ints {B : Hp} {c : Bas} {S : Sto} {x : D} {v : V} {ns : List Int} (ok : Sok K c S) (h : Rb K B c x v) (e : (seqAny x).bind allInt = some ns) : ∃ a, v = .ref a ∧ (SqL K c.H a (ns.map V.int) ∨ SqT K c.H a (ns.map V.int)) := by
  obtain ⟨xs, e1, e2⟩ := Option.bind_eq_some_iff.mp e
  have e3 := allInt_map e2
  subst e3
  cases x with
  | lst ys =>
    cases e1
    obtain ⟨a, ws, ev, h1, hl, h2⟩ := h.lst ok
    exact ⟨a, ev, .inl (by rw [← h2.ints]; exact h1)⟩
  | tup ys =>
    cases e1
    obtain ⟨a, ws, ev, h1, hl, h2⟩ := h.tup ok
    exact ⟨a, ev, .inr (by rw [← h2.ints]; exact h1)⟩
  | non => cases e1
  | bl _ => cases e1
  | int _ => cases e1
  | str _ => cases e1
  | mu _ => cases e1
  | ty _ => cases e1
theorem cd_max : CallD K (rSeqI K fun n ns => ns.foldl max n) bMax := by
  intro B c S S' vs ds d ok r e Q q
  unfold bMax at e
  split at e
  · split at e
    · rename_i n ns hb
      cases e
      obtain ⟨v, rfl, h⟩ := r.one
      obtain ⟨a, rfl, h1⟩ := Rb.ints ok h hb
      exact ⟨a, n, ns, rfl, h1, q _ c (Step.refl c) ok rfl⟩
    · cases e
  · cases e
theorem cd_min : CallD K (rSeqI K fun n ns => ns.foldl min n) bMin := by
  intro B c S S' vs ds d ok r e Q q
  unfold bMin at e
  split at e
  · split at e
    · rename_i n ns hb
      cases e
      obtain ⟨v, rfl, h⟩ := r.one
      obtain ⟨a, rfl, h1⟩ := Rb.ints ok h hb
      exact ⟨a, n, ns, rfl, h1, q _ c (Step.refl c) ok rfl⟩
    · cases e
  · cases e

/-! ### sorted: ints, pairs of ints -/
def isPair : D → Option (Int × Int)
  | .tup [.int i, .int j] => some (i, j)
  | _ => none
def allPair : List D → Option (List (Int × Int))
  | [] => some []
  | d :: r => (isPair d).bind fun p => (allPair r).map (p :: ·)
def dPair (p : Int × Int) : D := .tup [.int p.1, .int p.2]
theorem isPair_eq {d : D} {p : Int × Int} (h : isPair d = some p) : d = dPair p := by
  unfold isPair at h
  split at h
  · cases h; rfl
  · cases h
theorem allPair_map : ∀ {ds : List D} {ps : List (Int × Int)}, allPair ds = some ps → ds = ps.map dPair
  | [], ps, h => by cases h; rfl
  | d :: r, ps, h => by
    obtain ⟨p, h1, h2⟩ := Option.bind_eq_some_iff.mp (show (isPair d).bind (fun p => (allPair r).map (p :: ·)) = some ps from h)
    obtain ⟨cs, h3, h4⟩ := Option.map_eq_some_iff.mp h2
    subst h4
    rw [allPair_map h3, isPair_eq h1]
    rfl
theorem allPair_of : ∀ ps : List (Int × Int), allPair (ps.map dPair) = some ps
  | [] => rfl
  | p :: r => by
    show (isPair (dPair p)).bind (fun p => (allPair (r.map dPair)).map (p :: ·)) = _
    rw [allPair_of r]
    rfl
def leP (p q : Int × Int) : Bool := decide (p.1 < q.1 ∨ (p.1 = q.1 ∧ p.2 ≤ q.2))
def bSorted : OpN := fun ds S => match ds with
  | [x] => (match (seqAny x) with
    | some xs => (match allInt xs with
      | some ns => .ok ((ns.mergeSort fun a b => decide (a ≤ b)).map D.int) S
      | none => (match allPair xs with
        | some ps => .ok ((ps.mergeSort leP).map dPair) S
        | none => .stuck))
    | none => .stuck)
  | _ => .stuck
end
end DL

/-! DL6: sorted, slices, + of lists, min with default, isinstance. -/
namespace DL
open PySem PySem.Spec PyProof.Rows L2

/-! ### sorted, by data -/
def leY (a b : PyData) : Bool := !PySem.W.dataLt b a
def rSortD (K : PySem.W.Frag) : List V → Hp → VK → Prop := fun vs H Q => ∃ (a : Addr) (ps : List (V × PyData)), vs = [V.ref a] ∧ SqL K H a (ps.map Prod.fst) ∧ (∀ p ∈ ps, Dp K H p.1 p.2) ∧
  PySem.W.AllAlike (ps.map Prod.snd) ∧ PySem.W.Sortable (ps.map Prod.snd) ∧ (∀ p ∈ ps, p.2.depth ≤ 40) ∧
  ∀ l, H l = none → Q (.ref l) (upd H l (.lst ((ps.mergeSort fun p q => leY p.2 q.2).map Prod.fst)))
section
variable {X : Cx}
theorem eachV {its : List Value} : ∀ {ps : List (V × PyData)}, Vals (ps.map Prod.fst) its → PySem.W.EachIs (fun (u : Value) (p : V × PyData) => RelV p.1 u) its ps := by
  intro ps
  induction ps generalizing its with
  | nil => intro r; cases r; exact .nil
  | cons p ps ih => intro r; cases r with | cons r1 r2 => exact .cons r1 (ih r2)
theorem eachR {h : Heap} {its : List Value} : ∀ {ps : List (V × PyData)}, Vals (ps.map Prod.fst) its → (∀ p ∈ ps, ∀ u, RelV p.1 u → ∃ as, Reads h u p.2 as) → PySem.W.EachIs (fun (u : Value) (p : V × PyData) => ∃ as, Reads h u p.2 as) its ps := by
  intro ps
  induction ps generalizing its with
  | nil => intro r _; cases r; exact .nil
  | cons p ps ih => intro r f; cases r with | cons r1 r2 => exact .cons (f p List.mem_cons_self _ r1) (ih r2 fun q hq => f q (List.mem_cons_of_mem _ hq))
theorem valsE {its : List Value} : ∀ {ps : List (V × PyData)}, PySem.W.EachIs (fun (u : Value) (p : V × PyData) => RelV p.1 u) its ps → Vals (ps.map Prod.fst) its := by
  intro ps
  induction ps generalizing its with
  | nil => intro r; cases r; exact .nil
  | cons p ps ih => intro r; cases r with | cons r1 r2 => exact .cons r1 (ih r2)
theorem cr_sortD (hu : X.A.units + 64 < cLine) : CallR X (.builtin "sorted") (rSortD X.K) := by
  intro pins s σ H vs us Q I r h
  obtain ⟨a, ps, rfl, hs, hd, hal, hk, hz, q⟩ := h
  obtain ⟨its, rv, hl, hlen⟩ := I.list hs
  rw [Vals.ref1 r]
  rw [List.length_map] at hlen
  refine PySem.W.sorted_data (R := fun (u : Value) (p : V × PyData) => RelV p.1 u) (bs := ps) (enc := Prod.snd) hl.isList (eachV rv) (eachR rv fun p hp u ru => Dp.reads I p.2 p.1 u (hd p hp) ru) hal hk hlen
    (fun p hp => by have := hz p hp; omega) fun out ho he => ?_
  have rv' := valsE he
  have e : PySem.W.dataLe false (Prod.snd : V × PyData → PyData) = fun p q => leY p.2 q.2 := PySem.W.dataLe_eq false Prod.snd
  rw [e] at rv'
  obtain ⟨ep, he'⟩ := PyProof.Rows.sortedAll_at s.heap its out.toArray
  have hl' : ((ps.mergeSort fun p q => leY p.2 q.2).map Prod.fst).length ≤ sizeLine := by
    rw [List.length_map, List.length_mergeSort]
    exact hlen
  exact ⟨.ref _, upd H (s.heap.objs.size + 1) (.lst ((ps.mergeSort fun p q => leY p.2 q.2).map Prod.fst)), I.laid (t' := s.toks) (fun _ _ => PyProof.Rows.sortedAll_old) (Nat.le_succ _) ⟨hl', out, ep, rv', he'⟩, rfl, q _ (I.hok.fresh (Nat.le_succ _))⟩
end
def leD (a b : D) : Bool := leY (toPy a) (toPy b)
/-- the items that sorted takes: ints, pairs of ints -/
def sortable (xs : List D) : Bool := (allInt xs).isSome || (allPair xs).isSome
def oSorted : OpN := fun ds S => match ds with
  | [.lst xs] => if sortable xs = true then .ok (xs.mergeSort leD) S else .stuck
  | _ => .stuck
section
variable {K : PySem.W.Frag} {F : Hp} {ι : List Addr}
theorem RpAll.zip : ∀ {ds : List D} {vs : List V}, RpAll K F ι ds vs → (vs.zip ds).map Prod.fst = vs ∧ (vs.zip ds).map Prod.snd = ds ∧ ∀ p ∈ vs.zip ds, Rp K F ι p.2 p.1
  | [], _, h => by rw [show _ = [] from h]; exact ⟨rfl, rfl, fun _ h => by cases h⟩
  | d :: ds, _, ⟨v, r, e, h1, h2⟩ => by
    obtain ⟨e1, e2, e3⟩ := RpAll.zip h2
    subst e
    refine ⟨?_, ?_, fun p hp => ?_⟩
    · show v :: (r.zip ds).map Prod.fst = _
      rw [e1]
    · show d :: (r.zip ds).map Prod.snd = _
      rw [e2]
    · rcases List.mem_cons.mp hp with h | h
      · rw [h]; exact h1
      · exact e3 p h
theorem RpAll.of_zip : ∀ {ps : List (V × D)}, (∀ p ∈ ps, Rp K F ι p.2 p.1) → RpAll K F ι (ps.map Prod.snd) (ps.map Prod.fst)
  | [], _ => rfl
  | p :: ps, h => ⟨p.1, ps.map Prod.fst, rfl, h p List.mem_cons_self, RpAll.of_zip fun q hq => h q (List.mem_cons_of_mem _ hq)⟩
theorem sortable_ok {xs : List D} (h : sortable xs = true) : plAll xs = true ∧ PySem.W.AllAlike (toPyAll xs) ∧ PySem.W.Sortable (toPyAll xs) ∧ ∀ d ∈ toPyAll xs, d.depth ≤ 40 := by
  unfold sortable at h
  rw [Bool.or_eq_true] at h
  have mp : ∀ ys : List D, toPyAll ys = ys.map toPy := fun ys => by
    induction ys with
    | nil => rfl
    | cons y ys ih => show toPy y :: toPyAll ys = _; rw [ih]; rfl
  rcases h with h | h
  · obtain ⟨ns, e⟩ := Option.isSome_iff_exists.mp h
    have e' := allInt_map e
    subst e'
    rw [toPy_ints]
    refine ⟨?_, fun d hd d' hd' => ?_, .inr fun d hd => ?_, fun d hd => ?_⟩
    · clear e h
      induction ns with
      | nil => rfl
      | cons n ns ih => show (true && plAll (ns.map D.int)) = true; rw [ih] <;> rfl
    · obtain ⟨i, _, rfl⟩ := List.mem_map.mp hd
      obtain ⟨j, _, rfl⟩ := List.mem_map.mp hd'
      simp only [PySem.W.alike]
    · obtain ⟨i, _, rfl⟩ := List.mem_map.mp hd
      exact ⟨fun z => (by cases z), fun xs z => (by cases z)⟩
    · obtain ⟨i, _, rfl⟩ := List.mem_map.mp hd
      exact Nat.zero_le _
  · obtain ⟨ns, e⟩ := Option.isSome_iff_exists.mp h
    have e' := allPair_map e
    subst e'
    rw [mp, List.map_map]
    refine ⟨?_, fun d hd d' hd' => ?_, .inl fun d hd => ?_, fun d hd => ?_⟩
    · clear e h
      induction ns with
      | nil => rfl
      | cons n ns ih => show (pl (dPair n) && plAll (ns.map dPair)) = true; rw [ih] <;> rfl
    · obtain ⟨i, _, rfl⟩ := List.mem_map.mp hd
      obtain ⟨j, _, rfl⟩ := List.mem_map.mp hd'
      show PySem.W.alike (.tuple [.int _, .int _]) (.tuple [.int _, .int _]) = true
      simp only [PySem.W.alike, PySem.W.alikeAll, Bool.and_self]
    · obtain ⟨i, _, rfl⟩ := List.mem_map.mp hd
      exact ⟨_, _, rfl⟩
    · obtain ⟨i, _, rfl⟩ := List.mem_map.mp hd
      exact (by decide : (1 : Nat) ≤ 40)
theorem plAll_mem : ∀ {xs : List D} {x : D}, plAll xs = true → x ∈ xs → pl x = true
  | y :: ys, x, h, hx => by
    have h' : (pl y && plAll ys) = true := h
    rw [Bool.and_eq_true] at h'
    rcases List.mem_cons.mp hx with e | e
    · rw [e]; exact h'.1
    · exact plAll_mem h'.2 e
theorem toPyAll_map : ∀ ys : List D, toPyAll ys = ys.map toPy
  | [] => rfl
  | y :: ys => by show toPy y :: toPyAll ys = _; rw [toPyAll_map ys]; rfl
theorem cn_sorted : CallN K (rSortD K) oSorted := by
  intro B c S S' vs ds es ok r e Q q
  unfold oSorted at e
  split at e
  · rename_i xs
    split at e
    · rename_i hs
      cases e
      obtain ⟨v, rfl, h⟩ := r.one
      obtain ⟨a, ws, rfl, h1, hl, h2⟩ := h.lst ok
      obtain ⟨z1, z2, z3⟩ := h2.zip
      obtain ⟨k1, k2, k3, k4⟩ := sortable_ok hs
      have em : ((ws.zip xs).map fun p => (p.1, toPy p.2)).map Prod.fst = ws := by
        rw [List.map_map]
        exact z1
      have es : ((ws.zip xs).map fun p => (p.1, toPy p.2)).map Prod.snd = toPyAll xs := by
        rw [List.map_map, toPyAll_map]
        conv => rhs; rw [← z2]
        rw [List.map_map]
        rfl
      refine ⟨a, (ws.zip xs).map fun p => (p.1, toPy p.2), rfl, by rw [em]; exact h1, fun p hp => ?_, by rw [es]; exact k2, by rw [es]; exact k3, fun p hp => ?_, fun l hn => ?_⟩
      · obtain ⟨p', hp', rfl⟩ := List.mem_map.mp hp
        refine Rp.dp ok.f _ _ (plAll_mem k1 ?_) (z3 p' hp')
        have : p'.2 ∈ (ws.zip xs).map Prod.snd := List.mem_map.mpr ⟨p', hp', rfl⟩
        rw [z2] at this
        exact this
      · have : p.2 ∈ ((ws.zip xs).map fun p => (p.1, toPy p.2)).map Prod.snd := List.mem_map.mpr ⟨p, hp, rfl⟩
        rw [es] at this
        exact k4 _ this
      · have e1 : ((ws.zip xs).mergeSort fun p q => leD p.2 q.2).map (fun p => (p.1, toPy p.2)) = ((ws.zip xs).map fun p => (p.1, toPy p.2)).mergeSort fun p q => leY p.2 q.2 :=
          PySem.W.sort_maps (fun p : V × D => (p.1, toPy p.2)) fun _ _ _ _ => rfl
        rw [← e1, List.map_map]
        have e2 : ((ws.zip xs).mergeSort fun p q => leD p.2 q.2).map Prod.snd = xs.mergeSort leD := by
          conv => rhs; rw [← z2]
          exact PySem.W.sort_maps Prod.snd fun _ _ _ _ => rfl
        have r' : RpAll K c.F c.ι (xs.mergeSort leD) (((ws.zip xs).mergeSort fun p q => leD p.2 q.2).map Prod.fst) := by
          rw [← e2]
          exact RpAll.of_zip fun p hp => z3 p (List.mem_mergeSort.mp hp)
        have hl' : (((ws.zip xs).mergeSort fun p q => leD p.2 q.2).map Prod.fst).length ≤ sizeLine := by
          rw [List.length_map, List.length_mergeSort, ← List.length_map (f := Prod.fst), z1]
          exact hl
        obtain ⟨s2, o2, n2⟩ := new_lst ok hn hl' r'
        exact q _ ⟨_, _, _⟩ s2 o2 n2
    · cases e
  · cases e
end

/-! ### slices -/
def cutD (xs : List D) (lo hi : Option Int) : List D := (xs.drop (HT.sIx xs.length 0 lo)).take (HT.sIx xs.length xs.length hi - HT.sIx xs.length 0 lo)
abbrev EO := Env → Sto → Res (Option Int)
def tOI (K : PySem.W.Frag) (B : Bas) (f : EO) : TO := fun σ H Q => ∃ F ι S env, Stt K B ⟨F, ι, H⟩ S σ env ∧ ∃ o S', f env S = .ok o S' ∧ ∀ c', Step ⟨F, ι, H⟩ c' → Sok K c' S' → Q o c'.H
theorem _root_.L2.PO.imp {X : Cx} {e : Option Expr} {t t' : TO} (h : PO X e t) (i : ∀ σ H Q, t' σ H Q → t σ H Q) : PO X e t' := ⟨fun pins s σ H Q I q => h.run pins s σ H Q I (i σ H Q q)⟩
def oNo : EO := fun _ S => .ok none S
def oSo (f : EE) : EO := fun env S => (f env S).bind fun d S => match d with
  | .int i => .ok (some i) S
  | _ => .stuck
section
variable {X : Cx} {K : PySem.W.Frag} {B : Bas} {e : Expr} {f : EE} {pos p2 : Pos} {lo hi : Option Expr} {u v : EO}
theorem po_no : PO X none (tOI K B oNo) := po_none.imp fun σ H Q ⟨F, ι, S, env, st, o, S', e, q⟩ => by
  cases e
  exact q _ (Step.refl _) st.ok
theorem po_so (h : PE X e (tD K B f)) : PO X (some e) (tOI K B (oSo f)) := (po_some h).imp fun σ H Q ⟨F, ι, S, env, st, o, S', e, q⟩ => by
  obtain ⟨d, S1, e1, e⟩ := Res.bind_ok e
  refine ⟨F, ι, S, env, st, d, S1, e1, fun v c1 s1 o1 r1 => ?_⟩
  split at e
  · cases e
    exact ⟨_, r1, q c1 s1 o1⟩
  · cases e
/-- xs[lo:hi] of a list: a new list -/
def eSlL (f : EE) (u v : EO) : EL := fun env S => (f env S).bind fun d S => (u env S).bind fun lo S => (v env S).bind fun hi S => match d with
  | .lst xs => .ok (cutD xs lo hi) S
  | _ => .stuck
/-- of a list or a tuple -/
def eSl (f : EE) (u v : EO) : EE := fun env S => (f env S).bind fun d S => (u env S).bind fun lo S => (v env S).bind fun hi S => match d with
  | .lst xs => .ok (.lst (cutD xs lo hi)) S
  | .tup xs => .ok (.tup (cutD xs lo hi)) S
  | _ => .stuck
theorem RpAll.cut {F : Hp} {ι : List Addr} {xs : List D} {vs : List V} (h : RpAll K F ι xs vs) (lo hi : Option Int) : RpAll K F ι (cutD xs lo hi) (cutV vs lo hi) := by
  unfold cutD cutV
  rw [h.len]
  exact (h.drop _).take _
theorem cutD_whole {xs : List D} {lo hi : Option Int} (h : HT.sIx xs.length 0 lo = 0 ∧ HT.sIx xs.length xs.length hi = xs.length) : cutD xs lo hi = xs := by
  unfold cutD
  rw [h.1, h.2, List.drop_zero, Nat.sub_zero, List.take_length]
theorem n_slice (hK : X.K = K) (he : PE X e (tB K B f)) (hl : PO X lo (tOI K B u)) (hu : PO X hi (tOI K B v)) : PE X (.Subscript e (.Slice lo hi none p2) pos) (tN K B (eSlL f u v)) := by
  subst hK
  refine (pe_slice sl_list he hl hu).imp fun σ H Q ⟨F, ι, S, env, st, ys, S', e, q⟩ => ?_
  obtain ⟨d, S1, e1, e⟩ := Res.bind_ok e
  obtain ⟨l, S2, e2, e⟩ := Res.bind_ok e
  obtain ⟨h, S3, e3, e⟩ := Res.bind_ok e
  refine ⟨F, ι, S, env, st, d, S1, e1, fun v1 c1 s1 o1 r1 => ?_⟩
  refine ⟨c1.F, c1.ι, S1, env, st.step s1 o1, l, S2, e2, fun c2 s2 o2 => ?_⟩
  refine ⟨c2.F, c2.ι, S2, env, st.step (s1.trans s2) o2, h, S3, e3, fun c3 s3 o3 => ?_⟩
  split at e
  · cases e
    obtain ⟨a, vs, rfl, h1, hz, h2⟩ := ((r1.step s2).step s3).lst o3
    refine ⟨a, vs, rfl, h1, fun p hp => ?_⟩
    obtain ⟨s4, o4, n4⟩ := new_lst o3 hp (Nat.le_trans (cutV_length _ _ _) hz) (h2.cut l h)
    exact q _ ⟨_, _, _⟩ (((s1.trans s2).trans s3).trans s4) o4 (n4.from ((s1.trans s2).trans s3))
  · cases e
theorem d_slice (hK : X.K = K) (he : PE X e (tB K B f)) (hl : PO X lo (tOI K B u)) (hu : PO X hi (tOI K B v)) : PE X (.Subscript e (.Slice lo hi none p2) pos) (tD K B (eSl f u v)) := by
  subst hK
  refine (pe_slice (SlR.or sl_list sl_tupA) he hl hu).imp fun σ H Q ⟨F, ι, S, env, st, ys, S', e, q⟩ => ?_
  obtain ⟨d, S1, e1, e⟩ := Res.bind_ok e
  obtain ⟨l, S2, e2, e⟩ := Res.bind_ok e
  obtain ⟨h, S3, e3, e⟩ := Res.bind_ok e
  refine ⟨F, ι, S, env, st, d, S1, e1, fun v1 c1 s1 o1 r1 => ?_⟩
  refine ⟨c1.F, c1.ι, S1, env, st.step s1 o1, l, S2, e2, fun c2 s2 o2 => ?_⟩
  refine ⟨c2.F, c2.ι, S2, env, st.step (s1.trans s2) o2, h, S3, e3, fun c3 s3 o3 => ?_⟩
  have sm := (s1.trans s2).trans s3
  split at e
  · cases e
    obtain ⟨a, vs, rfl, h1, hz, h2⟩ := ((r1.step s2).step s3).lst o3
    refine .inl ⟨a, vs, rfl, h1, fun p hp => ?_⟩
    obtain ⟨s4, o4, n4⟩ := new_lst o3 hp (Nat.le_trans (cutV_length _ _ _) hz) (h2.cut l h)
    obtain ⟨F', s5, o5, r5⟩ := frz_new s4 o4 n4
    exact q _ ⟨F', _, _⟩ (sm.trans s5) o5 r5
  · cases e
    have r3 := (r1.step s2).step s3
    obtain ⟨a, vs, ev, h1, hz, h2⟩ := r3.tup o3
    subst ev
    refine .inr ⟨a, vs, rfl, h1, fun hw => ?_, fun _ p hp => ?_⟩
    · rw [h2.len] at hw
      rw [cutD_whole hw] at q
      refine q _ c3 sm o3 ?_
      rcases r3 with r3 | ⟨_, z, _⟩
      · exact r3
      · cases z
    · obtain ⟨s4, o4, r4⟩ := new_tup o3 hp (Nat.le_trans (cutV_length _ _ _) hz) (h2.cut l h)
      exact q _ ⟨_, _, _⟩ (sm.trans s4) o4 r4
  · cases e
end

/-! ### list + list, list * int -/
def eCat (f g : EE) : EL := fun env S => (f env S).bind fun x S => (g env S).bind fun y S => match x, y with
  | .lst xs, .lst ys => if xs.length + ys.length ≤ 1000000 then .ok (xs ++ ys) S else .stuck
  | _, _ => .stuck
/-- tracked, not the module's own -/
def TrL (c : Bas) (v : V) : Prop := ∃ a vs, v = .ref a ∧ c.H a = some (.lst vs)
section
variable {X : Cx} {K : PySem.W.Frag} {B : Bas} {a b e : Expr} {f g : EE} {l l' : EL} {pos : Pos}
theorem sizeM' {n : Nat} (h : n ≤ 1000000) : n ≤ sizeLine := Nat.le_trans h (by decide)
/-- a new list, then another one -/
def eCatN (l l' : EL) : EL := fun env S => (l env S).bind fun xs S => (l' env S).bind fun ys S => if xs.length + ys.length ≤ 1000000 then .ok (xs ++ ys) S else .stuck
theorem n_cat (ha : PE X a (tN K B l)) (hb : PE X b (tN K B l')) : PE X (.BinOp a .Add b pos) (tN K B (eCatN l l')) := (pe_op op_cat ha hb).imp fun σ H Q ⟨F, ι, S, env, st, ys, S', e, q⟩ => by
  obtain ⟨xs, S1, e1, e⟩ := Res.bind_ok e
  obtain ⟨zs, S2, e2, e⟩ := Res.bind_ok e
  refine ⟨F, ι, S, env, st, xs, S1, e1, fun v1 c1 s1 o1 n1 => ?_⟩
  refine ⟨c1.F, c1.ι, S1, env, st.step s1 o1, zs, S2, e2, fun v2 c2 s2 o2 n2 => ?_⟩
  split at e
  · rename_i hz
    cases e
    obtain ⟨p1, w1, ev1, a1, b1, d1, r1, f1, g1⟩ := n1
    obtain ⟨p2, w2, ev2, a2, b2, d2, r2, f2, g2⟩ := n2
    have la : LAt c2 p1 (.lst w1) := LAt.step (c := c1) ⟨b1, f1, g1⟩ s2
    have hl : w1.length + w2.length ≤ sizeLine := by rw [r1.len, r2.len]; exact sizeM' hz
    refine ⟨p1, p2, w1, w2, ev1, ev2, la.1, b2, hl, fun p hp => ?_⟩
    obtain ⟨s3, o3, n3⟩ := new_lst o2 hp (by rw [List.length_append]; exact hl) ((s2.rpAll r1).append r2)
    exact q _ ⟨_, _, _⟩ ((s1.trans s2).trans s3) o3 (n3.from (s1.trans s2))
  · cases e
/-- [..] * n -/
def eRepN (l : EL) (g : EE) : EL := fun env S => (l env S).bind fun xs S => (g env S).bind fun y S => match y with
  | .int k => if (-1000000 ≤ k ∧ k ≤ 1000000) ∧ xs.length * k.toNat ≤ 1000000 then .ok (List.replicate k.toNat xs).flatten S else .stuck
  | _ => .stuck
theorem RpAll.rep {F : Hp} {ι : List Addr} {xs : List D} {vs : List V} (h : RpAll K F ι xs vs) : ∀ n : Nat, RpAll K F ι (List.replicate n xs).flatten (List.replicate n vs).flatten
  | 0 => rfl
  | n + 1 => by
    rw [List.replicate_succ, List.replicate_succ, List.flatten_cons, List.flatten_cons]
    exact h.append (RpAll.rep h n)
theorem n_rep (ha : PE X a (tN K B l)) (hb : PE X b (tD K B g)) : PE X (.BinOp a .Mult b pos) (tN K B (eRepN l g)) := (pe_op op_rep ha hb).imp fun σ H Q ⟨F, ι, S, env, st, ys, S', e, q⟩ => by
  obtain ⟨xs, S1, e1, e⟩ := Res.bind_ok e
  obtain ⟨y, S2, e2, e⟩ := Res.bind_ok e
  refine ⟨F, ι, S, env, st, xs, S1, e1, fun v1 c1 s1 o1 n1 => ?_⟩
  refine ⟨c1.F, c1.ι, S1, env, st.step s1 o1, y, S2, e2, fun v2 c2 s2 o2 r2 => ?_⟩
  split at e
  · rename_i k
    split at e
    · rename_i hz
      cases e
      obtain ⟨p1, w1, ev1, a1, b1, d1, r1, f1, g1⟩ := n1
      have la : LAt c2 p1 (.lst w1) := LAt.step (c := c1) ⟨b1, f1, g1⟩ s2
      have hl : w1.length * k.toNat ≤ sizeLine := by rw [r1.len]; exact sizeM' hz.2
      refine ⟨p1, k, w1, ev1, r2, la.1, by omega, by omega, hl, fun p hp => ?_⟩
      have hl2 : (List.replicate k.toNat w1).flatten.length ≤ sizeLine := by
        rw [List.length_flatten, List.map_replicate, List.sum_replicate_nat, Nat.mul_comm]
        exact hl
      obtain ⟨s3, o3, n3⟩ := new_lst o2 hp hl2 ((s2.rpAll r1).rep k.toNat)
      exact q _ ⟨_, _, _⟩ ((s1.trans s2).trans s3) o3 (n3.from (s1.trans s2))
    · cases e
  · cases e
end
end DL

/-! DL7: list(enumerate(x)), list(zip(x, y)): low. -/
namespace DL
open PySem PySem.W PySem.Calls PyProof.Rows PyProof.V PySem.Spec
open Sem (wp)

abbrev tupO (x y : Value) : Obj := { cls := .type "tuple", data := .seq #[x, y] }
/-- an iterator that gives new pairs, each of which is kept by whoever asked -/
structure LSrc (prog : Program) (w : World) (I S : Addr) (T : String) (wr : List Addr) (n : Nat) (P : Nat → Value → Value → Prop) (St : Nat → Heap → Prop) : Prop where
  frame : ∀ i h h', St i h → (∀ b o, b ≠ S → h.get? b = some o → h'.get? b = some o) → St i h'
  item : ∀ (A : Around), A.handled = none → ∀ (i : Nat) (s : Shared) (Q : Option Value → Shared → Prop) (E : Value → Shared → Prop), i < n → St i s.heap → S < s.heap.objs.size →
    (∀ u v h' tk, P i u v → h'.get? s.heap.objs.size = some (tupO u v) → h'.objs.size = s.heap.objs.size + 1 → St (i + 1) h' → (∀ b o, b ∉ wr → s.heap.get? b = some o → h'.get? b = some o) →
      Q (some (.ref s.heap.objs.size)) { s with heap := h', toks := tk }) → wpAny (model prog w) A (pyNext (.ref I)) Q E s
  done : ∀ (A : Around), A.handled = none → ∀ (s : Shared) (Q : Option Value → Shared → Prop) (E : Value → Shared → Prop), St n s.heap →
    (∀ h' tk, (∀ b o, b ∉ wr → s.heap.get? b = some o → h'.get? b = some o) → Q none { s with heap := h', toks := tk }) → wpAny (model prog w) A (pyNext (.ref I)) Q E s
  self : ∀ (A : Around) (s : Shared) (Q : Value → Shared → Prop) (E : Value → Shared → Prop), St 0 s.heap → Q (.ref I) s → wpAny (model prog w) A (pyIter (.ref I)) Q E s
  ty : ∀ (i : Nat) (s : Shared), St i s.heap → s.TypeIs (.ref I) T
  sw : S ∉ wr
  iw : I ∈ wr
/-- the pairs that have come -/
def Its (lo : Nat) (P : Nat → Value → Value → Prop) (acc : Array Value) (h : Heap) (i : Nat) : Prop :=
  acc.size = i ∧ (∀ (j : Nat) (v : Value), acc[j]? = some v → ∃ a x y, v = .ref a ∧ h.get? a = some (tupO x y) ∧ P j x y ∧ lo ≤ a) ∧ ∀ (j k : Nat) (v : Value), acc[j]? = some v → acc[k]? = some v → j = k
theorem Its.keep {lo : Nat} {P : Nat → Value → Value → Prop} {acc : Array Value} {h h' : Heap} {i : Nat} (x : Its lo P acc h i) (k : ∀ a o, lo ≤ a → h.get? a = some o → h'.get? a = some o) : Its lo P acc h' i :=
  ⟨x.1, fun j v e => let ⟨a, u, w, e1, e2, e3, e4⟩ := x.2.1 j v e; ⟨a, u, w, e1, k a _ e4 e2, e3, e4⟩, x.2.2⟩
section
variable {prog : Program} {w : World} {s : Shared} {R : Result → Shared → Prop} {I S : Addr} {T : String} {wr : List Addr} {n : Nat} {P : Nat → Value → Value → Prop} {St : Nat → Heap → Prop}
theorem lsrc_loop (W : LSrc prog w I S T wr n P St) (hn : n ≤ sizeLine) (res : Value) {A : Around} (hh : A.handled = none) {h₁ : Heap} {lo : Nat} (hS1 : S < lo) (hwr : ∀ b ∈ wr, b < lo)
    (hR : ∀ h' tk acc c, (∀ b o, b ≠ S → b ∉ wr → h₁.get? b = some o → h'.get? b = some o) → h'.get? S = some { cls := .type "list", dict := none, data := .seq acc c, slots := #[] } → Its lo P acc h' n → R (.ok (.ret res)) { s with heap := h', toks := tk }) :
    ∀ (k i : Nat) (h : Heap) (tk c : Nat) (acc : Array Value), n - i = k → i ≤ n → St i h → (∀ b o, b ≠ S → b ∉ wr → h₁.get? b = some o → h.get? b = some o) →
      h.get? S = some { cls := .type "list", dict := none, data := .seq acc c, slots := #[] } → Its lo P acc h i → lo ≤ h.objs.size →
      codeAny (model prog w) A (.builtin "list.extend.loop" ⟨[.ref S, .ref I, res], []⟩) R { s with heap := h, toks := tk } := by
  have apart : ∀ {a : Addr}, lo ≤ a → a ≠ S ∧ a ∉ wr := fun {a} ha => ⟨fun e => by subst e; exact absurd hS1 (Nat.not_lt.mpr ha), fun m => absurd (hwr a m) (Nat.not_lt.mpr ha)⟩
  intro k
  induction k with
  | zero =>
    intro i h tk c acc hk hi hst hkeep hS hacc hlo
    have hin : i = n := by omega
    subst hin
    refine codeAny_builtin PySem.F.entry_extend_loop ?_
    rw [Around.under_plainId PySem.F.plain_extend_loop _]
    show wpAny _ A.in1 (pyNext (.ref I) >>= _) _ _ _
    refine wpAny_bind (W.done A.in1 hh { s with heap := h, toks := tk } _ _ hst fun h' tk' he => ?_)
    exact wpAny_pure (hR h' tk' acc c (fun b o h1 h2 e => he b o h2 (hkeep b o h1 h2 e)) (he S _ W.sw hS) (hacc.keep fun a o ha e => he a o (apart ha).2 e))
  | succ k ih =>
    intro i h tk c acc hk hi hst hkeep hS hacc hlo
    have hlt : i < n := by omega
    refine codeAny_builtin PySem.F.entry_extend_loop ?_
    rw [Around.under_plainId PySem.F.plain_extend_loop _]
    show wpAny _ A.in1 (pyNext (.ref I) >>= _) _ _ _
    refine wpAny_bind (W.item A.in1 hh i { s with heap := h, toks := tk } _ _ hlt hst (Heap.lt_size hS) fun u v h' tk' hP ht hz hst' hkp => ?_)
    have ht : h'.get? h.objs.size = some (tupO u v) := ht
    have hz : h'.objs.size = h.objs.size + 1 := hz
    have hkp : ∀ b o, b ∉ wr → h.get? b = some o → h'.get? b = some o := hkp
    have hS' := hkp S _ W.sw hS
    have up : ∀ b o, b ≠ S → h'.get? b = some o → (h'.update S (Obj.mapSeq (·.push (Value.ref h.objs.size)))).get? b = some o := fun b o hb e => (Heap.get?_update_other _ _ (Ne.symm hb)).trans e
    have hsz : acc.size = i := hacc.1
    have hap := apart hlo
    show wpAny _ A.in1 (updateSeq S (·.push (Value.ref h.objs.size)) >>= _) _ _ _
    refine wpAny_bind ?_
    refine wpAny_updateSeq hS' rfl (wpAny_pure ⟨plainId_quiet PySem.F.plain_extend_loop _, ih (i + 1) _ tk' _ (acc.push (Value.ref h.objs.size)) (by omega) hlt (W.frame _ _ _ hst' up)
      (fun b o h1 h2 e => up b o h1 (hkp b o h2 (hkeep b o h1 h2 e))) (Heap.get?_update_self _ hS' rfl) ⟨by rw [Array.size_push, hsz], fun j v' e => ?_, fun j k v' e e' => ?_⟩ (by rw [Heap.size_update, hz]; exact Nat.le_succ_of_le hlo)⟩) (by rw [hsz]; omega) (by show (acc.push (Value.ref h.objs.size)).size ≤ sizeLine + 1; rw [Array.size_push, hsz]; omega)
    · rw [Array.getElem?_push] at e
      split at e
      · rename_i hj
        cases e
        refine ⟨h.objs.size, u, v, rfl, up _ _ hap.1 ht, ?_, hlo⟩
        rw [hj, hsz]; exact hP
      · obtain ⟨a, x, y, e1, e2, e3, e4⟩ := hacc.2.1 j v' e
        exact ⟨a, x, y, e1, up a _ (apart e4).1 (hkp a _ (apart e4).2 e2), e3, e4⟩
    · have old : ∀ (j : Nat), acc[j]? = some (Value.ref h.objs.size) → False := fun j e => by
        obtain ⟨a, x, y, e1, e2, _, _⟩ := hacc.2.1 j _ e
        cases e1
        exact absurd (Heap.lt_size e2) (Nat.lt_irrefl _)
      rw [Array.getElem?_push] at e e'
      split at e
      · rename_i hj
        cases e
        split at e'
        · rename_i hk'
          rw [hj, hk']
        · exact (old _ e').elim
      · split at e'
        · cases e'
          exact (old _ e).elim
        · exact hacc.2.2 j k v' e e'
variable {A : Around} {E : Value → Shared → Prop}
theorem lsrc_extend (W : LSrc prog w I S T wr n P St) (hl : typeLookup (.type T) "__len__" = pure none) (hn0 : typeLookup (.type T) "__length_hint__" = pure none) (h2 : (Value.type T == Value.type "list") = false) (h3 : (Value.type T == Value.type "tuple") = false)
    (hh : A.handled = none) (hn : n ≤ sizeLine) (res : Value) (c₀ : Nat) (hst : St 0 s.heap) (hwr : ∀ b ∈ wr, b < s.heap.objs.size) (hS : s.heap.get? S = some { cls := .type "list", data := .seq #[] c₀ })
    (hR : ∀ h' tk acc c, (∀ b o, b ≠ S → b ∉ wr → s.heap.get? b = some o → h'.get? b = some o) → h'.get? S = some { cls := .type "list", dict := none, data := .seq acc c, slots := #[] } → Its s.heap.objs.size P acc h' n → R (.ok (.ret res)) { s with heap := h', toks := tk }) :
    wpAny (model prog w) A.in1 (Builtin.List.listExtendWith (.ref S) (.ref I) res)
      (fun fin s' => match fin with | .done f => R (.ok f) s' | .again c' => c'.quiet = true ∧ codeAny (model prog w) A c' R s') (fun e s' => R (.error e) s') s := by
  have hSI : S ≠ I := fun e => W.sw (e ▸ W.iw)
  unfold Builtin.List.listExtendWith
  refine wpAny_bind (wpAny_typeOf (W.ty 0 _ hst) ?_)
  have h1 : Builtin.List.listSameRef (.ref S) (.ref I) = false := by simp [Builtin.List.listSameRef, hSI]
  simp only [h1, h2, h3, Bool.or_false, Bool.false_eq_true, if_false]
  refine wpAny_bind (W.self _ _ _ _ hst ?_)
  refine wpAny_bind (wpAny_holding ?_)
  unfold Builtin.List.listLengthHint
  refine wpAny_bind (wpAny_specialOf (W.ty 0 _ hst) hl ?_)
  show wpAny _ A.in1 (specialOf (Value.ref I) (Str.ofString "__length_hint__") >>= _) _ _ _
  refine wpAny_bind (wpAny_specialOf (W.ty 0 _ hst) hn0 ?_)
  refine wpAny_pure ?_
  show wpAny _ A.in1 (rule "list.extend.makes-room" >>= fun _ => Builtin.List.listTouch (.ref S) >>= fun _ =>
    again (.builtin "list.extend.loop" ⟨[.ref S, .ref I, res], []⟩)) _ _ _
  refine wpAny_bind (wpAny_rule ?_)
  refine wpAny_bind ?_
  show wpAny _ A.in1 (updateSeq S (·.push .none) >>= fun _ => updateSeq S (·.pop)) _ _ _
  refine wpAny_bind (wpAny_updateSeq hS rfl ?_)
  have hS₂ := Heap.get?_update_self (Obj.mapSeq (·.push Value.none)) hS rfl
  refine wpAny_updateSeq (hz := by seq_fits) hS₂ rfl ?_
  have hS₃ := Heap.get?_update_self (Obj.mapSeq (·.pop)) hS₂ rfl
  have oth : ∀ b o, b ≠ S → s.heap.get? b = some o → ((s.heap.update S (Obj.mapSeq (·.push Value.none))).update S (Obj.mapSeq (·.pop))).get? b = some o :=
    fun b o hb e => (Heap.get?_update_other _ _ (Ne.symm hb)).trans ((Heap.get?_update_other _ _ (Ne.symm hb)).trans e)
  refine wpAny_pure ⟨plainId_quiet PySem.F.plain_extend_loop _, lsrc_loop (s := s) (h₁ := s.heap) (lo := s.heap.objs.size) W hn res hh (Heap.lt_size hS) hwr hR n 0 _ s.toks _ _ rfl (Nat.zero_le _)
    (W.frame 0 _ _ hst oth) (fun b o hb _ e => oth b o hb e) hS₃ ⟨rfl, fun j v e => (by simp at e), fun j k v e => (by simp at e)⟩ (by rw [Heap.size_update, Heap.size_update]; exact Nat.le_refl _)⟩
theorem lsrc_init (W : LSrc prog w I S T wr n P St) (hl : typeLookup (.type T) "__len__" = pure none) (hn0 : typeLookup (.type T) "__length_hint__" = pure none) (h2 : (Value.type T == Value.type "list") = false) (h3 : (Value.type T == Value.type "tuple") = false)
    (hh : A.handled = none) (hn : n ≤ sizeLine) (hst : St 0 s.heap) (hwr : ∀ b ∈ wr, b < s.heap.objs.size) (hS : s.heap.get? S = some { cls := .type "list", data := .seq #[] })
    (hR : ∀ h' tk acc c, (∀ b o, b ≠ S → b ∉ wr → s.heap.get? b = some o → h'.get? b = some o) → h'.get? S = some { cls := .type "list", dict := none, data := .seq acc c, slots := #[] } → Its s.heap.objs.size P acc h' n → R (.ok (.ret .none)) { s with heap := h', toks := tk }) :
    wpAny (model prog w) A.in1 (Builtin.«list.__init__» ⟨[.ref S, .ref I], []⟩)
      (fun fin s' => match fin with | .done f => R (.ok f) s' | .again c' => c'.quiet = true ∧ codeAny (model prog w) A c' R s') (fun e s' => R (.error e) s') s := by
  show wpAny _ A.in1 (do let old ← Builtin.List.listItems (.ref S); Builtin.List.listUpdate (.ref S) (fun _ => #[]); letGo old.toList.reverse; Builtin.List.listExtendWith (.ref S) (.ref I) .none) _ _ s
  refine wpAny_bind ?_
  unfold Builtin.List.listItems
  refine wpAny_bind (wpAny_seqItems hS rfl (wpAny_pure ?_))
  show wpAny _ A.in1 (updateSeq S (fun _ => #[]) >>= fun _ => letGo (#[] : Array Value).toList.reverse >>= fun _ => Builtin.List.listExtendWith (.ref S) (.ref I) .none) _ _ s
  refine wpAny_bind (wpAny_updateSeq hS rfl ?_)
  have hS₂ := Heap.get?_update_self (Obj.mapSeq (fun _ => (#[] : Array Value))) hS rfl
  have oth : ∀ b o, b ≠ S → s.heap.get? b = some o → (s.heap.update S (Obj.mapSeq (fun _ => (#[] : Array Value)))).get? b = some o :=
    fun b o hb e => (Heap.get?_update_other _ _ (Ne.symm hb)).trans e
  refine wpAny_bind (wpAny_letGo ?_)
  refine lsrc_extend W hl hn0 h2 h3 hh hn .none _ (W.frame 0 _ _ hst oth) (fun b hb => by rw [Heap.size_update]; exact hwr b hb) hS₂ fun h' tk acc c hk hS' hI => ?_
  have e : (s.heap.update S (Obj.mapSeq (fun _ => (#[] : Array Value)))).objs.size = s.heap.objs.size := Heap.size_update ..
  have hI' : Its (s.heap.update S (Obj.mapSeq (fun _ => (#[] : Array Value)))).objs.size P acc h' n := hI
  rw [e] at hI'
  exact hR h' tk acc c (fun b o hb hw x => hk b o hb hw (oth b o hb x)) hS' hI'
/-- list(it) -/
theorem lsrc_call {Q : Value → Shared → Prop} (W : LSrc prog w I s.heap.objs.size T wr n P St) (hl : typeLookup (.type T) "__len__" = pure none) (hn0 : typeLookup (.type T) "__length_hint__" = pure none) (h2 : (Value.type T == Value.type "list") = false) (h3 : (Value.type T == Value.type "tuple") = false)
    (hh : A.handled = none) (hn : n ≤ sizeLine) (hst : St 0 s.heap) (hwr : ∀ b ∈ wr, b < s.heap.objs.size)
    (hQ : ∀ h' tk acc c, (∀ b o, b ∉ wr → s.heap.get? b = some o → h'.get? b = some o) → h'.get? s.heap.objs.size = some { cls := .type "list", dict := none, data := .seq acc c, slots := #[] } → Its (s.heap.objs.size + 1) P acc h' n → Q (.ref s.heap.objs.size) { s with heap := h', toks := tk }) :
    wpAny (model prog w) A (call (.type "list") [.ref I]) Q E s := by
  refine callType_codes (Q₁ := fun obj s₁ => obj = .ref s.heap.objs.size ∧ s₁ = { s with heap := s.heap.push { cls := .type "list", data := .seq #[] } }) PySem.F.called_list (PySem.F.typeCall_list_1 _) PySem.F.entry_list_init
    (code_list_new _ ⟨rfl, rfl⟩) fun obj s₁ h₁ => ?_
  obtain ⟨rfl, rfl⟩ := h₁
  have hS : (s.heap.push { cls := .type "list", data := .seq #[] }).get? s.heap.objs.size = some { cls := .type "list", data := .seq #[] } := Heap.get?_push_size _ rfl
  have hsz : (s.heap.push { cls := .type "list", data := .seq #[] }).objs.size = s.heap.objs.size + 1 := Heap.size_push ..
  refine ⟨⟨_, hS, rfl⟩, PySem.F.args_list_init_2 _ _, lsrc_init (A := A.in1) W hl hn0 h2 h3 hh hn (W.frame 0 _ _ hst fun b o _ e => Heap.get?_push_of_some _ e) (fun b hb => by show b < (s.heap.push _).objs.size; rw [hsz]; exact Nat.lt_succ_of_lt (hwr b hb)) hS fun h' tk acc c hk hS' hI => ?_⟩
  have hI' : Its (s.heap.push { cls := .type "list", data := .seq #[] }).objs.size P acc h' n := hI
  rw [hsz] at hI'
  exact ⟨rfl, hQ h' tk acc c (fun b o hw e => hk b o (Nat.ne_of_lt (Heap.lt_size e)) hw (Heap.get?_push_of_some _ e)) hS' hI'⟩
end

/-! ### enumerate, whose last pair is still held -/
abbrev EnOut (h : Heap) (e it : Addr) (i : Int) (item : Value) (a : Addr) (f : Bool) : Prop :=
  h.get? e = some { cls := .type "enumerate", dict := none, data := .fields #[rawInt a, .bool f, .ref it, rawInt i, .none, item], slots := #[] }
section
variable {prog : Program} {w : World} {A : Around} {E : Value → Shared → Prop} {s : Shared}
theorem enum_next_out {e it a : Addr} {f : Bool} {oa : Obj} {fp : List Addr} {n i : Nat} {P : Nat → Value → Prop} {St : Nat → Heap → Prop} {old : Value} {Q : Value → Shared → Prop}
    (D : Draws prog w A it fp n P St) (he : EnOut s.heap e it i old a f) (ha : s.heap.get? a = some oa) (hae : a ≠ e) (hai : a ≠ it) (hst : St i s.heap) (hlt : i < n) (hne : e ≠ it) (hef : e ∉ fp)
    (hQ : ∀ x h' tk, P i x → EnOut h' e it ((i : Int) + 1) old a true → St (i + 1) h' →
      h'.get? s.heap.objs.size = some { cls := .type "tuple", data := .seq #[.int i tk, x] } → h'.objs.size = s.heap.objs.size + 1 →
      (∀ b o, b ≠ e → b ≠ it → s.heap.get? b = some o → h'.get? b = some o) → Q (.ref s.heap.objs.size) { s with heap := h', toks := tk + 1 }) :
    wpAny (model prog w) A (Builtin.«enumerate.__next__» ⟨[.ref e], []⟩) (fun fin s' => ∃ v, fin = .done (.ret v) ∧ Q v s') E s := by
  obtain ⟨hp, g, d, tk₀, os⟩ := s
  show wpAny _ _ (field (.ref e) 2 >>= _) _ _ _
  refine wpAny_bind (wpAny_field he rfl (x := .ref it) rfl ?_)
  refine wpAny_bind (D.item i _ _ _ hlt hst fun x h₁ tk hPx hit₁ hs₁ => ?_)
  replace hs₁ : Heap.SameBut it hp h₁ := hs₁
  have he₁ : EnOut h₁ e it i old a f := (hs₁.2 e hne).trans he
  show wpAny _ _ (field (.ref e) 3 >>= _) _ _ ⟨h₁, g, d, tk, os⟩
  refine wpAny_bind (wpAny_field he₁ rfl (x := rawInt i) rfl ?_)
  show wpAny _ _ (field (.ref e) 4 >>= _) _ _ ⟨h₁, g, d, tk, os⟩
  refine wpAny_bind (wpAny_field he₁ rfl (x := .none) rfl ?_)
  show wpAny _ _ (mkInt i >>= _) _ _ ⟨h₁, g, d, tk, os⟩
  refine wpAny_bind (wpAny_mkInt ?_)
  show wpAny _ _ (setField (.ref e) 3 (rawInt ((i : Int) + 1)) >>= _) _ _ ⟨h₁, g, d, tk + 1, os⟩
  refine wpAny_bind (wpAny_setField_rec he₁ (by simp) fun h₂ he₂ hs₂ => ?_)
  replace hs₂ : Heap.SameBut e h₁ h₂ := hs₂
  replace he₂ : EnOut h₂ e it ((i : Int) + 1) old a f := he₂
  show wpAny _ _ (setField (.ref e) 4 .none >>= _) _ _ ⟨h₂, g, d, tk + 1, os⟩
  refine wpAny_bind (wpAny_setField_rec he₂ (by simp) fun h₃ he₃ hs₃ => ?_)
  replace hs₃ : Heap.SameBut e h₂ h₃ := hs₃
  replace he₃ : EnOut h₃ e it ((i : Int) + 1) old a f := he₃
  show wpAny _ _ (newTuple [.int i tk, x] >>= _) _ _ ⟨h₃, g, d, tk + 1, os⟩
  refine wpAny_bind (wpAny_newTuple ?_)
  have he₄ : EnOut (h₃.push { cls := .type "tuple", data := .seq #[.int i tk, x] }) e it ((i : Int) + 1) old a f := Heap.get?_push_of_some _ he₃
  generalize hh₄ : h₃.push { cls := .type "tuple", data := .seq #[.int i tk, x] } = h₄ at he₄
  have hsz : h₃.objs.size = hp.objs.size := by rw [hs₃.1, hs₂.1, hs₁.1]
  have hel : e < hp.objs.size := Heap.lt_size he
  have ht₄ : h₄.get? hp.objs.size = some { cls := .type "tuple", data := .seq #[.int i tk, x] } := by rw [← hh₄, ← hsz]; exact Heap.get?_push_size _ rfl
  have hz₄ : h₄.objs.size = hp.objs.size + 1 := by rw [← hh₄, Heap.size_push, hsz]
  have hk₄ : ∀ b o, b ≠ e → b ≠ it → hp.get? b = some o → h₄.get? b = some o := fun b o hbe hbi hb => by
    rw [← hh₄]; exact Heap.get?_push_of_some _ (hs₃.extBut b o hbe (hs₂.extBut b o hbe (hs₁.extBut b o hbi hb)))
  have hit₄ : St (i + 1) h₄ := D.frame _ _ _ hit₁ fun b hb o y => by
    have hbe : b ≠ e := fun q => hef (q ▸ hb)
    rw [← hh₄]; exact Heap.get?_push_of_some _ (hs₃.extBut b o hbe (hs₂.extBut b o hbe y))
  show wpAny _ _ (Builtin.SmallTypes.ownedTupleIsFree (.ref e) >>= _) _ _ ⟨h₄, g, d, tk + 1, os⟩
  rw [hsz]
  clear hh₄ he₃ hs₃ he₂ hs₂ he₁ hs₁ hit₁ hsz h₃ h₂ h₁
  have ha₄ : h₄.get? a = some oa := hk₄ a oa hae hai ha
  have fin : ∀ h₅ : Heap, EnOut h₅ e it ((i : Int) + 1) old a true → Heap.SameBut e h₄ h₅ → Q (.ref hp.objs.size) ⟨h₅, g, d, tk + 1, os⟩ := fun h₅ he₅ hs₅ =>
    hQ x h₅ tk hPx he₅ (D.frame _ _ _ hit₄ fun b hb o y => hs₅.extBut b o (fun q => hef (q ▸ hb)) y) (hs₅.extBut _ _ (Nat.ne_of_gt hel) ht₄) (by show h₅.objs.size = hp.objs.size + 1; rw [hs₅.1, hz₄]) fun b o hbe hbi hb => hs₅.extBut b o hbe (hk₄ b o hbe hbi hb)
  refine wpAny_bind ?_
  unfold Builtin.SmallTypes.ownedTupleIsFree
  refine wpAny_bind (wpAny_field he₄ rfl (x := rawInt a) rfl ?_)
  show wpAny _ _ (loadIfAlive ((a : Int).toNat) >>= _) _ _ _
  rw [Int.toNat_natCast]
  refine wpAny_bind (kdx_alive ha₄ ?_)
  simp only [Option.isNone_some, Bool.false_eq_true, if_false]
  refine wpAny_bind (wpAny_field he₄ rfl (x := .bool f) rfl ?_)
  cases f with
  | true =>
    rw [if_neg (show ¬ ((Value.bool true != Value.bool true) = true) from Bool.false_ne_true)]
    refine wpAny_pure ?_
    simp only [Bool.false_eq_true, if_false]
    exact wpAny_pure ⟨_, rfl, fin h₄ he₄ (Heap.SameBut.refl _ _)⟩
  | false =>
    rw [if_pos (show (Value.bool false != Value.bool true) = true from rfl)]
    refine wpAny_bind (wpAny_setField_rec he₄ (by simp) fun h₅ he₅ hs₅ => ?_)
    replace hs₅ : Heap.SameBut e h₄ h₅ := hs₅
    replace he₅ : EnOut h₅ e it ((i : Int) + 1) old a true := he₅
    refine wpAny_pure ?_
    simp only [Bool.false_eq_true, if_false]
    exact wpAny_pure ⟨_, rfl, fin h₅ he₅ hs₅⟩
theorem pyNext_enum_out {e it a : Addr} {f : Bool} {oa : Obj} {fp : List Addr} {n i : Nat} {P : Nat → Value → Prop} {St : Nat → Heap → Prop} {old : Value} {Q : Option Value → Shared → Prop}
    (D : Draws prog w A.in1 it fp n P St) (he : EnOut s.heap e it i old a f) (ha : s.heap.get? a = some oa) (hae : a ≠ e) (hai : a ≠ it) (hst : St i s.heap) (hlt : i < n) (hne : e ≠ it) (hef : e ∉ fp)
    (hQ : ∀ x h' tk, P i x → EnOut h' e it ((i : Int) + 1) old a true → St (i + 1) h' →
      h'.get? s.heap.objs.size = some { cls := .type "tuple", data := .seq #[.int i tk, x] } → h'.objs.size = s.heap.objs.size + 1 →
      (∀ b o, b ≠ e → b ≠ it → s.heap.get? b = some o → h'.get? b = some o) → Q (some (.ref s.heap.objs.size)) { s with heap := h', toks := tk + 1 }) :
    wpAny (model prog w) A (pyNext (.ref e)) Q E s := by
  have hT : s.TypeIs (.ref e) "enumerate" := ⟨_, he, rfl⟩
  unfold pyNext
  exact wpAny_bind (wpAny_attempt (wpAny_callSpecial?_slot (name := Str.ofString "__next__") hT F.slot_enumerate_next
    (wpAny_call_entry F.slot_enumerate_next hT F.entry_enumerate_next
      (enum_next_out D he ha hae hai hst hlt hne hef fun x h' tk a b c d k q => wpAny_pure (hQ x h' tk a b c d k q)) (F.args_enumerate_next_1 _))))
theorem pyNext_enum_out_end {e it a : Addr} {f : Bool} {fp : List Addr} {n : Nat} {P : Nat → Value → Prop} {St : Nat → Heap → Prop} {i : Int} {old : Value} {Q : Option Value → Shared → Prop}
    (D : Draws prog w A.in1 it fp n P St) (he : EnOut s.heap e it i old a f) (hst : St n s.heap)
    (hQ : ∀ h', Heap.ExtBut it s.heap h' → Q none { s with heap := h' }) : wpAny (model prog w) A (pyNext (.ref e)) Q E s := by
  have hT : s.TypeIs (.ref e) "enumerate" := ⟨_, he, rfl⟩
  unfold pyNext
  refine wpAny_bind (wpAny_attempt (wpAny_callSpecial?_slot (name := Str.ofString "__next__") hT F.slot_enumerate_next
    (wpAny_call_entry F.slot_enumerate_next hT F.entry_enumerate_next ?_ (F.args_enumerate_next_1 _))))
  show wpAny _ _ (field (.ref e) 2 >>= _) _ _ _
  refine wpAny_bind (wpAny_field he rfl (x := .ref it) rfl ?_)
  refine wpAny_bind (D.done _ _ _ hst fun h' x he' hx' => ?_)
  obtain ⟨o, ho, hc⟩ := hx'
  refine wpAny_bind (wpAny_isInstance (T := "StopIteration") (b := true) ⟨o, ho, hc⟩ isSubtype_stop ?_)
  exact wpAny_pure (hQ _ he')
end
end DL

/-! DL8: list(enumerate(x)), list(zip(x, y)). -/
namespace DL
open PySem PySem.Spec PyProof.Rows L2
section
variable {prog : Program} {w : World}
theorem en_nolen : typeLookup (.type "enumerate") "__len__" = pure none := by rw [typeLookup_type, builtinLookup_eq_fast]; kernel_rfl
theorem en_nohint : typeLookup (.type "enumerate") "__length_hint__" = pure none := by rw [typeLookup_type, builtinLookup_eq_fast]; kernel_rfl
theorem zi_nolen : typeLookup (.type "zip") "__len__" = pure none := by rw [typeLookup_type, builtinLookup_eq_fast]; kernel_rfl
theorem zi_nohint : typeLookup (.type "zip") "__length_hint__" = pure none := by rw [typeLookup_type, builtinLookup_eq_fast]; kernel_rfl
theorem lsrc_enum {e it S l : Addr} (items : Array Value) (hei : e ≠ it) (hle : l ≠ e) (hli : l ≠ it) (hSe : S ≠ e) (hSi : S ≠ it) (hSl : S ≠ l) :
    LSrc prog w e S "enumerate" [e, it] items.size (fun i u v => (∃ t, u = .int (i : Nat) t) ∧ items[i]? = some v)
      (fun i h => h.IsListIter it l i ∧ h.IsList l items ∧ ((∃ old, IsEnum h e it (i : Nat) old) ∨ 0 < i ∧ ∃ old T f oT, IsEnumHeld h e it (i : Nat) old T f ∧ h.get? T = some oT ∧ T ≠ e ∧ T ≠ it ∧ T ≠ S)) where
  frame := fun i h h' st hk => by
    obtain ⟨hit, hl, he⟩ := st
    refine ⟨hit.at fun o x => hk _ o (Ne.symm hSi) x, hl.at fun o x => hk _ o (Ne.symm hSl) x, ?_⟩
    rcases he with ⟨old, he⟩ | ⟨hi, old, T, f, oT, he, hT, r1, r2, r3⟩
    · exact .inl ⟨old, hk _ _ (Ne.symm hSe) he⟩
    · exact .inr ⟨hi, old, T, f, oT, hk _ _ (Ne.symm hSe) he, hk _ _ r3 hT, r1, r2, r3⟩
  item := fun A hA i s₁ Q₁ E₁ hi st hds hQ => by
    obtain ⟨hit, hl, he⟩ := st
    have ex := Array.getElem?_eq_getElem hi
    have ec : ((i + 1 : Nat) : Int) = (i : Int) + 1 := by omega
    have nit : s₁.heap.objs.size ≠ it := let ⟨_, x, _⟩ := hit; Nat.ne_of_gt (Heap.lt_size x)
    rcases he with ⟨old, he⟩ | ⟨_, old, T, f, oT, he, hT, r1, r2, r3⟩
    · refine wpAny_pyNext_enum_item he hit hl ex hei fun h' ho hit' hT hsz hk => ?_
      exact hQ _ _ h' (s₁.toks + 1) ⟨⟨_, rfl⟩, ex⟩ hT hsz
        ⟨hit', hl.at fun o x => hk l o hle hli x, .inr ⟨Nat.succ_pos _, _, s₁.heap.objs.size, false, _, (by rw [ec]; exact ho), hT, Nat.ne_of_gt (Heap.lt_size he), nit, Nat.ne_of_gt hds⟩⟩
        fun b o hb x => hk b o (fun y => hb (by simp [y])) (fun y => hb (by simp [y])) x
    · refine wpAny_pyNext_enum_item_held he hT r1 r2 hit hl ex hei fun h' ho hit' hT' hsz hk => ?_
      exact hQ _ _ h' (s₁.toks + 1) ⟨⟨_, rfl⟩, ex⟩ hT' hsz
        ⟨hit', hl.at fun o x => hk l o hle hli x, .inr ⟨Nat.succ_pos _, old, T, true, oT, (by rw [ec]; exact ho), hk _ _ r1 r2 hT, r1, r2, r3⟩⟩
        fun b o hb x => hk b o (fun y => hb (by simp [y])) (fun y => hb (by simp [y])) x
  done := fun A hA s₁ Q₁ E₁ st hQ => by
    obtain ⟨hit, hl, he⟩ := st
    have hx : items[items.size]? = none := Array.getElem?_eq_none (Nat.le_refl _)
    rcases he with ⟨old, he⟩ | ⟨_, old, T, f, oT, he, hT, r1, r2, r3⟩
    · exact wpAny_pyNext_enum_end hA he hit hl hx fun h' hk => hQ h' s₁.toks fun b o hb x => hk b o (fun y => hb (by simp [y])) x
    · exact wpAny_pyNext_enum_end_held hA he hit hl hx fun h' hk => hQ h' s₁.toks fun b o hb x => hk b o (fun y => hb (by simp [y])) x
  self := fun A s₁ Q₁ E₁ st hQ => by
    obtain ⟨hit, hl, he⟩ := st
    rcases he with ⟨old, he⟩ | ⟨hi, _⟩
    · exact wpAny_pyIter_enum he hQ
    · exact absurd hi (Nat.lt_irrefl _)
  ty := fun i s₁ st => by
    obtain ⟨hit, hl, he⟩ := st
    rcases he with ⟨old, he⟩ | ⟨_, old, T, f, oT, he, _⟩
    · exact ⟨_, he, rfl⟩
    · exact ⟨_, he, rfl⟩
  sw := fun hm => by
    simp only [List.mem_cons, List.not_mem_nil, or_false] at hm
    rcases hm with x | x
    · exact hSe x
    · exact hSi x
  iw := List.mem_cons_self
theorem lsrc_zip {z TI TO i1 i2 S l1 l2 : Addr} (D : ZipApart z TI TO i1 i2 l1 l2) (xs ys : Array Value) (dz : S ≠ z) (dTI : S ≠ TI) (dTO : S ≠ TO) (di1 : S ≠ i1) (di2 : S ≠ i2) (dl1 : S ≠ l1) (dl2 : S ≠ l2) :
    LSrc prog w z S "zip" [z, TO, i1, i2] (min xs.size ys.size) (fun i u v => xs[i]? = some u ∧ ys[i]? = some v)
      (fun i h => IsPair h TI (.ref i1) (.ref i2) ∧ h.IsListIter i1 l1 i ∧ h.IsListIter i2 l2 i ∧ h.IsList l1 xs ∧ h.IsList l2 ys ∧
        ((IsZip h z TI TO .none ∧ ∃ a b, IsPair h TO a b) ∨ 0 < i ∧ ∃ T f oT, IsZipHeld h z TI TO T f ∧ h.get? T = some oT ∧ T ≠ z ∧ T ≠ i1 ∧ T ≠ i2 ∧ T ≠ S)) where
  frame := fun i h₁ h₂ st hk => by
    obtain ⟨hTI, h1, h2, hl1, hl2, hz⟩ := st
    refine ⟨hk _ _ (Ne.symm dTI) hTI, h1.at fun o e => hk _ o (Ne.symm di1) e, h2.at fun o e => hk _ o (Ne.symm di2) e, hl1.at fun o e => hk _ o (Ne.symm dl1) e, hl2.at fun o e => hk _ o (Ne.symm dl2) e, ?_⟩
    rcases hz with ⟨hz, a, b, hTO⟩ | ⟨hi, T, f, oT, hz, hT, r1, r2, r3, r4⟩
    · exact .inl ⟨hk _ _ (Ne.symm dz) hz, a, b, hk _ _ (Ne.symm dTO) hTO⟩
    · exact .inr ⟨hi, T, f, oT, hk _ _ (Ne.symm dz) hz, hk _ _ r4 hT, r1, r2, r3, r4⟩
  item := fun A hA i s₁ Q₁ E₁ hi st hds hQ => by
    obtain ⟨hTI, h1, h2, hl1, hl2, hz⟩ := st
    have hix : i < xs.size := Nat.lt_of_lt_of_le hi (Nat.min_le_left ..)
    have hiy : i < ys.size := Nat.lt_of_lt_of_le hi (Nat.min_le_right ..)
    have ex := Array.getElem?_eq_getElem hix
    have ey := Array.getElem?_eq_getElem hiy
    have n1 : s₁.heap.objs.size ≠ i1 := let ⟨_, x, _⟩ := h1; Nat.ne_of_gt (Heap.lt_size x)
    have n2 : s₁.heap.objs.size ≠ i2 := let ⟨_, x, _⟩ := h2; Nat.ne_of_gt (Heap.lt_size x)
    rcases hz with ⟨hz, a, b, hTO⟩ | ⟨_, T, f, oT, hz, hT, r1, r2, r3, r4⟩
    · refine wpAny_pyNext_zip_item D hz hTI hTO h1 h2 hl1 hl2 ex ey fun h' a1 a2 a3 a4 a5 a6 hk => ?_
      exact hQ _ _ h' s₁.toks ⟨ex, ey⟩ a5 a6
        ⟨hk _ _ D.TIz D.TITO D.TIi1 D.TIi2 hTI, a3, a4, hl1.at fun o e => hk _ o D.l1z D.l1TO D.l1i1 D.l1i2 e, hl2.at fun o e => hk _ o D.l2z D.l2TO D.l2i1 D.l2i2 e,
          .inr ⟨Nat.succ_pos _, s₁.heap.objs.size, false, _, a1, a5, Nat.ne_of_gt (Heap.lt_size hz), n1, n2, Nat.ne_of_gt hds⟩⟩
        fun c o hc e => hk c o (fun x => hc (by simp [x])) (fun x => hc (by simp [x])) (fun x => hc (by simp [x])) (fun x => hc (by simp [x])) e
    · refine wpAny_pyNext_zip_item_held D hz hT hTI h1 h2 hl1 hl2 ex ey fun h' a1 a3 a4 a5 a6 hk => ?_
      exact hQ _ _ h' s₁.toks ⟨ex, ey⟩ a5 a6
        ⟨hk _ _ D.TIz D.TIi1 D.TIi2 hTI, a3, a4, hl1.at fun o e => hk _ o D.l1z D.l1i1 D.l1i2 e, hl2.at fun o e => hk _ o D.l2z D.l2i1 D.l2i2 e,
          .inr ⟨Nat.succ_pos _, T, true, oT, a1, hk _ _ r1 r2 r3 hT, r1, r2, r3, r4⟩⟩
        fun c o hc e => hk c o (fun x => hc (by simp [x])) (fun x => hc (by simp [x])) (fun x => hc (by simp [x])) e
  done := fun A hA s₁ Q₁ E₁ st hQ => by
    obtain ⟨hTI, h1, h2, hl1, hl2, hz⟩ := st
    have hend : xs[min xs.size ys.size]? = none ∨ ys[min xs.size ys.size]? = none := by
      rcases Nat.le_total xs.size ys.size with h | h
      · exact .inl (Array.getElem?_eq_none (by rw [Nat.min_eq_left h]; exact Nat.le_refl _))
      · exact .inr (Array.getElem?_eq_none (by rw [Nat.min_eq_right h]; exact Nat.le_refl _))
    rcases hz with ⟨hz, a, b, hTO⟩ | ⟨_, T, f, oT, hz, hT, r1, r2, r3, r4⟩
    · exact wpAny_pyNext_zip_end hA D hz hTI hTO h1 h2 hl1 hl2 hend fun h' hk => hQ h' s₁.toks fun c o hc e => hk c o (fun x => hc (by simp [x])) (fun x => hc (by simp [x])) (fun x => hc (by simp [x])) (fun x => hc (by simp [x])) e
    · exact wpAny_pyNext_zip_end_held hA D hz hT hTI h1 h2 hl1 hl2 hend fun h' hk => hQ h' s₁.toks fun c o hc e => hk c o (fun x => hc (by simp [x])) (fun x => hc (by simp [x])) (fun x => hc (by simp [x])) e
  self := fun A s₁ Q₁ E₁ st hQ => by
    obtain ⟨_, _, _, _, _, he⟩ := st
    rcases he with ⟨he, _⟩ | ⟨hi, _⟩
    · exact wpAny_pyIter_zip he hQ
    · exact absurd hi (Nat.lt_irrefl _)
  ty := fun i s₁ st => by
    obtain ⟨_, _, _, _, _, he⟩ := st
    rcases he with ⟨he, _⟩ | ⟨_, T, f, oT, he, _⟩
    · exact ⟨_, he, rfl⟩
    · exact ⟨_, he, rfl⟩
  sw := fun hm => by
    simp only [List.mem_cons, List.not_mem_nil, or_false] at hm
    rcases hm with e | e | e | e
    · exact dz e
    · exact dTO e
    · exact di1 e
    · exact di2 e
  iw := List.mem_cons_self
end

/-! ### many new tuples -/
def layP (H : Hp) : List (Addr × V × V) → Hp
  | [] => H
  | p :: L => upd (layP H L) p.1 (.tup [p.2.1, p.2.2])
theorem layP_ne {H : Hp} {a : Addr} : ∀ {L : List (Addr × V × V)}, a ∉ L.map Prod.fst → layP H L a = H a
  | [], _ => rfl
  | p :: L, h => by
    rw [List.map_cons, List.mem_cons, not_or] at h
    show upd (layP H L) p.1 _ a = _
    rw [upd_ne h.1, layP_ne h.2]
theorem layP_mem {H : Hp} {p : Addr × V × V} : ∀ {L : List (Addr × V × V)}, (L.map Prod.fst).Nodup → p ∈ L → layP H L p.1 = some (.tup [p.2.1, p.2.2])
  | q :: L, hn, h => by
    rw [List.map_cons, List.nodup_cons] at hn
    show upd (layP H L) q.1 _ p.1 = _
    rcases List.mem_cons.mp h with e | e
    · rw [e, upd_same]
    · rw [upd_ne (fun z => hn.1 (by rw [← z]; exact List.mem_map.mpr ⟨p, e, rfl⟩)), layP_mem hn.2 e]
theorem layP_some {H : Hp} {a : Addr} {o : HO} : ∀ {L : List (Addr × V × V)}, (L.map Prod.fst).Nodup → layP H L a = some o → H a = some o ∨ ∃ p ∈ L, p.1 = a ∧ o = .tup [p.2.1, p.2.2]
  | [], _, h => .inl h
  | q :: L, hn, h => by
    rw [List.map_cons, List.nodup_cons] at hn
    have h' : upd (layP H L) q.1 (.tup [q.2.1, q.2.2]) a = some o := h
    by_cases e : a = q.1
    · subst e
      rw [upd_same] at h'
      cases h'
      exact .inr ⟨q, List.mem_cons_self, rfl, rfl⟩
    · rw [upd_ne e] at h'
      rcases layP_some hn.2 h' with r | ⟨p, hp, r1, r2⟩
      · exact .inl r
      · exact .inr ⟨p, List.mem_cons_of_mem _ hp, r1, r2⟩
section
variable {X : Cx} {pins : List (Addr × Obj)} {σ : St} {H : Hp} {s : Shared} {h' : Heap}
/-- new objects laid and tracked, all at once -/
theorem _root_.L2.Inv.ext {H2 : Hp} {t' : Nat} (I : Inv X pins σ H s) (k : ∀ b u, s.heap.get? b = some u → h'.get? b = some u) (old : ∀ b o, H b = some o → H2 b = some o)
    (new : ∀ b o, H2 b = some o → H b = some o ∨ (s.heap.objs.size ≤ b ∧ ObjOk X.prog X.w H2 h' b o)) : Inv X pins σ H2 { s with heap := h', toks := t' } := by
  refine I.un ⟨fun b u q _ _ _ => k b u q, fun b u q _ _ _ => ⟨u.slots, k b u q⟩, fun b u q n _ => ?_, fun b u q _ => ⟨u, k b u q⟩, fun b xs q => old b _ q, fun b u xs q => old b _ q, fun b ps q => ⟨#[], by rw [old b _ q]; simp⟩⟩ ?_
  · cases e : H2 b with
    | none => rfl
    | some o =>
      rcases new b o e with r | ⟨r, _⟩
      · rw [n] at r; cases r
      · exact absurd (Heap.lt_size q) (Nat.not_lt.mpr r)
  · intro b u e
    rcases new b u e with r | ⟨_, r⟩
    · exact (I.hok b u r).stay (fun c v _ q => k c v q) (fun c q => old c _ q) fun c xs q => old c _ q
    · exact r
end
/-- a new list of new pairs -/
def tPairs (ps : List (V × V)) (H1 : Hp) (Q : VK) : Prop := ps.length ≤ sizeLine ∧ ∀ (as : List Addr) (S : Addr), as.length = ps.length → as.Nodup → (∀ b ∈ as, H1 b = none) → S ∉ as → H1 S = none →
  Q (.ref S) (upd (layP H1 (as.zip ps)) S (.lst (as.map V.ref)))
def adr : Value → Addr
  | .ref a => a
  | _ => 0
theorem laid_pairs {X : Cx} {pins : List (Addr × Obj)} {σ : St} {H1 : Hp} {s1 : Shared} {h' : Heap} {t' n c : Nat} {acc : Array Value} {S lo : Addr} {P : Nat → Value → Value → Prop} {ps : List (V × V)} {Q : VK} (I1 : Inv X pins σ H1 s1)
    (hk : ∀ b o, s1.heap.get? b = some o → h'.get? b = some o) (hS : h'.get? S = some { cls := .type "list", dict := none, data := .seq acc c, slots := #[] }) (hSl : s1.heap.objs.size ≤ S) (hI : Its lo P acc h' n) (hlo : s1.heap.objs.size ≤ lo) (hSlo : S < lo)
    (hn : n = ps.length) (hP : ∀ j x y, P j x y → ∃ p, ps[j]? = some p ∧ RelV p.1 x ∧ RelV p.2 y) (q : tPairs ps H1 Q) :
    ∃ x H2, Inv X pins σ H2 { s1 with heap := h', toks := t' } ∧ RelV x (.ref S) ∧ Q x H2 := by
  obtain ⟨hsz, q⟩ := q
  subst hn
  have hz := hI.1
  have hit : ∀ j (v : Value), acc.toList[j]? = some v → ∃ a x y, v = .ref a ∧ h'.get? a = some (tupO x y) ∧ P j x y ∧ lo ≤ a := fun j v e => hI.2.1 j v (by rw [← Array.getElem?_toList]; exact e)
  have hl : (acc.toList.map adr).length = ps.length := by rw [List.length_map, Array.length_toList, hz]
  have hnd : (acc.toList.map adr).Nodup := by
    refine List.pairwise_iff_getElem.mpr fun j k hj hk' hjk e => ?_
    rw [List.length_map] at hj hk'
    simp only [List.getElem_map] at e
    obtain ⟨a, _, _, e1, _⟩ := hit j _ (List.getElem?_eq_getElem hj)
    obtain ⟨b, _, _, e2, _⟩ := hit k _ (List.getElem?_eq_getElem hk')
    rw [e1, e2] at e
    have e' : a = b := e
    have := hI.2.2 j k (.ref a) (by rw [← Array.getElem?_toList, List.getElem?_eq_getElem hj, e1]) (by rw [← Array.getElem?_toList, List.getElem?_eq_getElem hk', e2, e'])
    exact absurd this (Nat.ne_of_lt hjk)
  have hge : ∀ b ∈ acc.toList.map adr, lo ≤ b := fun b hb => by
    obtain ⟨v, hv, rfl⟩ := List.mem_map.mp hb
    obtain ⟨j, hj⟩ := List.mem_iff_getElem?.mp hv
    obtain ⟨a, _, _, e1, _, _, e4⟩ := hit j v hj
    rw [e1]
    exact e4
  have hfst : ((acc.toList.map adr).zip ps).map Prod.fst = acc.toList.map adr := List.map_fst_zip (Nat.le_of_eq hl)
  have hSn : S ∉ acc.toList.map adr := fun hm => absurd (hge S hm) (Nat.not_le.mpr hSlo)
  have fr : ∀ b, s1.heap.objs.size ≤ b → H1 b = none := fun b hb => I1.hok.fresh hb
  refine ⟨.ref S, _, I1.ext hk (fun b o e => ?_) (fun b o e => ?_), rfl, q (acc.toList.map adr) S hl hnd (fun b hb => fr b (Nat.le_trans hlo (hge b hb))) hSn (fr S hSl)⟩
  · rw [upd_ne (ne_of_none e (fr S hSl)), layP_ne (fun hm => by
      rw [hfst] at hm
      rw [fr b (Nat.le_trans hlo (hge b hm))] at e
      cases e)]
    exact e
  · by_cases hb : b = S
    · subst hb
      rw [upd_same] at e
      cases e
      refine .inr ⟨hSl, ?_, acc.toList, c, ?_, by rw [Array.toArray_toList]; exact hS⟩
      · rw [List.length_map, hl]; exact hsz
      · refine vals_of_at (by rw [List.length_map, List.length_map]) fun j x u e1 e2 => ?_
        rw [List.getElem?_map, List.getElem?_map, e2] at e1
        cases e1
        obtain ⟨a, _, _, e3, _⟩ := hit j u e2
        rw [e3]
        rfl
    · rw [upd_ne hb] at e
      rcases layP_some (by rw [hfst]; exact hnd) e with r | ⟨p, hp, r1, r2⟩
      · exact .inl r
      · obtain ⟨j, hj⟩ := List.mem_iff_getElem?.mp hp
        rw [List.getElem?_zip_eq_some] at hj
        obtain ⟨j1, j2⟩ := hj
        rw [List.getElem?_map] at j1
        obtain ⟨v, hv, ev⟩ := Option.map_eq_some_iff.mp j1
        obtain ⟨a, x, y, e3, e4, e5, e6⟩ := hit j v hv
        obtain ⟨p', p1, p2, p3⟩ := hP j x y e5
        rw [j2] at p1
        cases p1
        have ea : a = b := by rw [← r1, ← ev, e3]; rfl
        subst ea r2
        refine .inr ⟨Nat.le_trans hlo e6, by show 2 ≤ sizeLine; decide, [x, y], .cons p2 (.cons p3 .nil), ⟨_, e4, rfl, _, rfl⟩⟩
end DL

/-! DL9: list(enumerate(x)), list(zip(x, y)), for and comprehensions over enumerate, zip. -/
namespace DL
open PySem PySem.Spec PyProof.Rows L2
theorem nlt {a b : Nat} (h : b < a) : @Ne Addr a b := Nat.ne_of_gt h
def enV (xs : List V) : List (V × V) := xs.mapIdx fun i x => (V.int (i : Nat), x)
def tListEnum (K : PySem.W.Frag) (te : TE) : TE := fun σ H Q => te σ H fun x H1 => ∃ a xs, x = .ref a ∧ SqL K H1 a xs ∧ tPairs (enV xs) H1 Q
def tListZip (K : PySem.W.Frag) (ta : TA) : TE := fun σ H Q => ta σ H fun vs H1 => ∃ a b xs ys, vs = [.ref a, .ref b] ∧ SqL K H1 a xs ∧ SqL K H1 b ys ∧ tPairs (xs.zip ys) H1 Q
theorem valsAt {xs : List V} {us : List Value} (r : Vals xs us) : ∀ {j : Nat} {u : Value}, us[j]? = some u → ∃ x, xs[j]? = some x ∧ RelV x u := by
  induction r with
  | nil => intro j u e; simp at e
  | cons r1 r2 ih =>
    intro j u e
    cases j with
    | zero => simp only [List.getElem?_cons_zero, Option.some.injEq] at e; subst e; exact ⟨_, rfl, r1⟩
    | succ j => exact ih (by simpa using e)
theorem pe_listEnum {X : Cx} {e : Expr} {te : TE} {p p2 pos pos2 : Pos} (hc : X.calm = true) (hg : Gl X "list") (hm : X.mg "list" = none) (hg2 : Gl X "enumerate") (hm2 : X.mg "enumerate" = none) (he : PE X e te)
    (na : starEach [e] X.env = (false, eval e X.env) :: starEach [] X.env := by rfl)
    (nb : starEach [Expr.Call (.Name "enumerate" p2) [e] [] pos2] X.env = (false, eval (Expr.Call (.Name "enumerate" p2) [e] [] pos2) X.env) :: starEach [] X.env := by rfl) :
    PE X (.Call (.Name "list" p) [.Call (.Name "enumerate" p2) [e] [] pos2] [] pos) (tListEnum X.K te) := by
  refine ⟨fun pins s σ H Q I h => ?_⟩
  refine Call_ (ld_blt I hg hm boot_list (PyProof.Rows.callWith_type1 (args_cons (Call_ (ld_blt I hg2 hm2 boot_enumerate (PyProof.Rows.callWith_type1 (args_cons (thn (he.run pins s σ H _ I h) fun u s1 ⟨x, H1, I1, r1, q1⟩ => args_nil ?_) na) na))) nb) nb))
  obtain ⟨a, xs, ex, hq, q⟩ := q1
  subst ex
  cases r1
  obtain ⟨its, rv, p', hz⟩ := I1.list hq
  have hal : a < s1.heap.objs.size := p'.lt
  refine call_enumerate_list p'.isList fun h' hh hit hsz hk => args_nil ?_
  have wm : ∀ c, c ∈ [s1.heap.objs.size + 1, s1.heap.objs.size] → s1.heap.objs.size ≤ c ∧ c < s1.heap.objs.size + 2 := fun c hcm => by
    have e' : c = s1.heap.objs.size + 1 ∨ c = s1.heap.objs.size := by simpa using hcm
    rcases e' with z | z
    · rw [z]; exact ⟨Nat.le_add_right _ _, Nat.lt_succ_self _⟩
    · rw [z]; exact ⟨Nat.le_refl _, Nat.lt_add_of_pos_right (by decide)⟩
  have n1 : s1.heap.objs.size + 1 ≠ s1.heap.objs.size := Nat.succ_ne_self _
  have na1 : a ≠ s1.heap.objs.size + 1 := Nat.ne_of_lt (Nat.lt_succ_of_lt hal)
  have na2 : a ≠ s1.heap.objs.size := Nat.ne_of_lt hal
  have W := lsrc_enum (prog := X.prog) (w := X.w) (e := s1.heap.objs.size + 1) (it := s1.heap.objs.size) (S := h'.objs.size) (l := a) its.toArray n1 na1 na2 (by rw [hsz]; exact nlt (by omega)) (by rw [hsz]; exact nlt (by omega)) (by rw [hsz]; exact nlt (Nat.lt_of_lt_of_le hal (Nat.le_add_right _ _)))
  refine lsrc_call (s := { s1 with heap := h' }) W en_nolen en_nohint (by decide) (by decide) (I1.ok.hd hc) (by rw [List.size_toArray, ← rv.length]; exact hz) ⟨hit, p'.isList.at fun o e => hk a o e, .inl ⟨_, hh⟩⟩
    (fun b hb => ?_) fun h2 tk acc c hk2 hS hI => ?_
  · show b < h'.objs.size
    rw [hsz]
    exact (wm b hb).2
  · have hlen := rv.length
    refine laid_pairs (s1 := s1) (h' := h2) (lo := h'.objs.size + 1) (n := its.toArray.size) I1 (fun b o e => hk2 b o (fun hm => ?_) (hk b o e)) hS (by rw [hsz]; omega) hI (by rw [hsz]; omega) (Nat.lt_succ_self _) (by unfold enV; rw [List.length_mapIdx, List.size_toArray]; exact hlen.symm) (fun j x y hP => ?_) q
    · exact absurd (Heap.lt_size e) (Nat.not_lt.mpr (wm b hm).1)
    · obtain ⟨⟨t, rfl⟩, hy⟩ := hP
      obtain ⟨v, hv, rv'⟩ := valsAt rv (j := j) (u := y) (by simpa using hy)
      exact ⟨(V.int (j : Nat), v), by unfold enV; rw [List.getElem?_mapIdx, hv]; rfl, ⟨t, rfl⟩, rv'⟩
theorem pe_listZip {X : Cx} {e e2 : Expr} {ta : TA} {p p2 pos pos2 : Pos} (hc : X.calm = true) (hg : Gl X "list") (hm : X.mg "list" = none) (hg2 : Gl X "zip") (hm2 : X.mg "zip" = none) (ha : PA X [e, e2] ta)
    (hs : starEach [e, e2] X.env = (false, eval e X.env) :: starEach [e2] X.env := by rfl) (hpl : (backTo pos2 (starEach [e2] X.env)).any (·.1) = false := by rfl)
    (nb : starEach [Expr.Call (.Name "zip" p2) [e, e2] [] pos2] X.env = (false, eval (Expr.Call (.Name "zip" p2) [e, e2] [] pos2) X.env) :: starEach [] X.env := by rfl) :
    PE X (.Call (.Name "list" p) [.Call (.Name "zip" p2) [e, e2] [] pos2] [] pos) (tListZip X.K ta) := by
  refine ⟨fun pins s σ H Q I h => ?_⟩
  refine Call_ (ld_blt I hg hm boot_list (PyProof.Rows.callWith_type1 (args_cons (Call_ (ld_blt I hg2 hm2 PyProof.Rows.boot_zip (PyProof.Rows.callWith_type1 (thn (ha.run pos2 pins s σ H _ I h) fun us s1 ⟨vs, H1, I1, r1, q1⟩ => ?_) hs hpl))) nb) nb))
  obtain ⟨a, b, xs, ys, ex, hqx, hqy, q⟩ := q1
  subst ex
  cases r1 with
  | cons r rr =>
    cases rr with
    | cons r' rr =>
      cases rr
      cases r
      cases r'
      obtain ⟨its, rv, p1, hz1⟩ := I1.list hqx
      obtain ⟨its2, rv2, p2, hz2⟩ := I1.list hqy
      have hal : a < s1.heap.objs.size := p1.lt
      have hbl : b < s1.heap.objs.size := p2.lt
      refine call_zip_2 p1.isList p2.isList fun h' hz hTI hTO h1 h2 hsz hk => args_nil ?_
      have W := lsrc_zip (prog := X.prog) (w := X.w) (S := h'.objs.size) (PySem.W.ktu_apart s1.heap.objs.size a b p1.lt p2.lt) its.toArray its2.toArray (by rw [hsz]; exact nlt (by omega)) (by rw [hsz]; exact nlt (by omega)) (by rw [hsz]; exact nlt (by omega)) (by rw [hsz]; exact nlt (by omega)) (by rw [hsz]; exact nlt (by omega))
        (by rw [hsz]; exact nlt (Nat.lt_of_lt_of_le hal (Nat.le_add_right _ _))) (by rw [hsz]; exact nlt (Nat.lt_of_lt_of_le hbl (Nat.le_add_right _ _)))
      have hl1 := rv.length
      have hl2 := rv2.length
      have wm : ∀ c, c ∈ [s1.heap.objs.size + 4, s1.heap.objs.size + 3, s1.heap.objs.size, s1.heap.objs.size + 1] → s1.heap.objs.size ≤ c ∧ c < s1.heap.objs.size + 5 := fun c hcm => by
        have e' : c = s1.heap.objs.size + 4 ∨ c = s1.heap.objs.size + 3 ∨ c = s1.heap.objs.size ∨ c = s1.heap.objs.size + 1 := by simpa using hcm
        rcases e' with z | z | z | z
        · rw [z]; exact ⟨Nat.le_add_right _ _, Nat.lt_succ_self _⟩
        · rw [z]; exact ⟨Nat.le_add_right _ _, Nat.add_lt_add_left (by decide) _⟩
        · rw [z]; exact ⟨Nat.le_refl _, Nat.lt_add_of_pos_right (by decide)⟩
        · rw [z]; exact ⟨Nat.le_add_right _ _, Nat.add_lt_add_left (by decide) _⟩
      refine lsrc_call (s := { s1 with heap := h' }) W zi_nolen zi_nohint (by decide) (by decide) (I1.ok.hd hc) (Nat.le_trans (Nat.min_le_left _ _) (by rw [List.size_toArray, ← hl1]; exact hz1)) ⟨hTI, h1, h2, p1.isList.at fun o e => hk a o e, p2.isList.at fun o e => hk b o e, .inl ⟨hz, _, _, hTO⟩⟩
        (fun c hcm => ?_) fun h2 tk acc c hk2 hS hI => ?_
      · show c < h'.objs.size
        rw [hsz]
        exact (wm c hcm).2
      · refine laid_pairs (s1 := s1) (h' := h2) (lo := h'.objs.size + 1) (n := min its.toArray.size its2.toArray.size) I1 (fun c o e => hk2 c o (fun hm => ?_) (hk c o e)) hS (by rw [hsz]; omega) hI (by rw [hsz]; omega) (Nat.lt_succ_self _) (by rw [List.length_zip, List.size_toArray, List.size_toArray, hl1, hl2]) (fun j x y hP => ?_) q
        · exact absurd (Heap.lt_size e) (Nat.not_lt.mpr (wm c hm).1)
        · obtain ⟨hx, hy⟩ := hP
          obtain ⟨v, hv, rv'⟩ := valsAt rv (j := j) (u := x) (by simpa using hx)
          obtain ⟨u, hu, ru'⟩ := valsAt rv2 (j := j) (u := y) (by simpa using hy)
          exact ⟨(v, u), by rw [List.getElem?_zip_eq_some]; exact ⟨hv, hu⟩, rv', ru'⟩
end DL

/-! DL10: enumerate and zip, as data. -/
namespace DL
open PySem PySem.Spec PyProof.Rows L2

/-! ### enumerate(a tuple) -/
set_option maxHeartbeats 1000000 in
theorem meets_enum1 {v : Value} {o : Obj} {H : Heap → Prop} (B : Begins v o H) :
    Meets (Builtin.«enumerate.__new__» ⟨[.type "enumerate", v], []⟩) (fun _ R s => H s.heap ∧
      R (.ok (.ret (.ref (s.heap.push o).objs.size))) { s with heap := (s.heap.push o).push { cls := .type "enumerate", data := .fields #[.none, .bool false, .ref s.heap.objs.size, rawInt 0, .none, .none] } }) :=
  .of_wp fun prog w A R s h => by
    obtain ⟨hp, g, d, tk, os⟩ := s; obtain ⟨h1, h⟩ := h
    have hsub := sub_enumerate
    have q1 : ∀ {A' : Around} {E : Value → Shared → Prop} {Q : Value → Shared → Prop}, Q (.ref hp.objs.size) ⟨hp.push o, g, d, tk, os⟩ → wpAny (model prog w) A' (pyIter v) Q E ⟨hp, g, d, tk, os⟩ :=
      fun q => B.iter prog w _ _ ⟨hp, g, d, tk, os⟩ _ h1 q
    wp_walk using q1
    refine wpAny_stack_any fun st => wpAny_pure ?_
    split
    · rename_i c _ _ _ _ _
      cases (c == Value.type "enumerate")
      · wp_walk using q1
        exact ⟨_, rfl, h⟩
      · wp_walk using q1
        exact ⟨_, rfl, h⟩
    · wp_walk using q1
      exact ⟨_, rfl, h⟩
section
variable {prog : Program} {w : World} {A : Around} {E : Value → Shared → Prop} {s : Shared}
theorem enum_begins1 {v : Value} {o : Obj} {H : Heap → Prop} {Q : Value → Shared → Prop} (B : Begins v o H) (h1 : H s.heap)
    (h : ∀ h', IsEnum h' (s.heap.objs.size + 1) s.heap.objs.size 0 .none → h'.get? s.heap.objs.size = some o → h'.objs.size = s.heap.objs.size + 2 →
      (∀ b o, s.heap.get? b = some o → h'.get? b = some o) → Q (.ref (s.heap.objs.size + 1)) { s with heap := h' }) :
    wpAny (model prog w) A (call (.type "enumerate") [v]) Q E s := by
  refine callType_new F.called_enumerate (by decide) (F.typeCall_enumerate_1 _) (F.newCall_enumerate_1 _) (fun obj => F.args_object_init_2 obj _) F.entry_enumerate_new
    (meets_enum1 B) ⟨h1, ?_⟩
  have hz : (s.heap.push o).objs.size = s.heap.objs.size + 1 := Heap.size_push ..
  show _ ∧ _
  rw [hz]
  have he : IsEnum ((s.heap.push o).push { cls := .type "enumerate", data := .fields #[.none, .bool false, .ref s.heap.objs.size, rawInt 0, .none, .none] }) (s.heap.objs.size + 1) s.heap.objs.size 0 .none := by
    have := Heap.get?_push_size (s.heap.push o) (o := { cls := .type "enumerate", data := .fields #[.none, .bool false, .ref s.heap.objs.size, rawInt 0, .none, .none] }) rfl
    rw [hz] at this; exact this
  refine ⟨⟨_, he, rfl⟩, h _ he (Heap.get?_push_of_some _ (Heap.get?_push_size _ B.free)) (by rw [Heap.size_push, hz]) fun b o x => Heap.get?_push_of_some _ (Heap.get?_push_of_some _ x)⟩
end
/-- the tuple at a as it stands at each turn, each item in a new pair -/
def IteT (K : PySem.W.Frag) (a : Addr) : It :=
  ⟨fun i H => ∃ (xs : List V) (x : V), SqT K H a xs ∧ xs[i]? = some x, fun i H v H' => ∃ T x, v = .ref T ∧ H T = none ∧ H' = upd H T (.tup [.int (i : Nat), x]) ∧ ∀ xs, SqT K H a xs → xs[i]? = some x, fun i H => ∃ xs : List V, SqT K H a xs ∧ xs.length ≤ i⟩
theorem turn_enumT {P : Program} {w : World} {K : PySem.W.Frag} {elts : List Expr} {kk : Nat} {tpos : Pos} (a e it : Addr) :
    Turn P w K (.Tuple elts kk tpos) (IteT K a) [e, it] e (fun i h => (∃ old, IsEnum h e it ((i : Nat) : Int) old) ∧ h.IsTupleIter it a i ∧ e ≠ it ∧ a ≠ e ∧ a ≠ it) where
  mem := by simp
  obj := fun i h st b hb => by
    obtain ⟨⟨old, he⟩, ⟨o, ho, hc, hd⟩, _⟩ := st
    have e' : b = e ∨ b = it := by simpa using hb
    rcases e' with z | z
    · rw [z]; exact ⟨_, he, fun v q => nomatch q⟩
    · rw [z]; exact ⟨o, ho, fun v q => by rw [hd] at q; cases q⟩
  keep := fun i h h' st k => let ⟨⟨old, he⟩, hi, hne⟩ := st; ⟨⟨old, k e (by simp) _ he⟩, hi.at fun o q => k it (by simp) o q, hne⟩
  item := by
    intro X hP hw hK hc i pins s σ H E I hf st hg
    subst hP hw hK
    obtain ⟨⟨old, he⟩, hit, hne, hae, hai⟩ := st
    obtain ⟨xs, x, hq, hx⟩ := hg
    obtain ⟨its, rv, p, hz⟩ := I.tuple hq
    obtain ⟨u, hu, ru⟩ := rv.get hx
    have hel : e < s.heap.objs.size := Heap.lt_size he
    have hil : it < s.heap.objs.size := by obtain ⟨_, q, _⟩ := hit; exact Heap.lt_size q
    have hlt : i < its.toArray.size := by rw [List.size_toArray]; exact (List.getElem?_eq_some_iff.mp hu).1
    refine wpAny_pyNext_enum_itemD (Draws.tuple (A := X.A.in1) (I.ok.hd hc) it a hai its.toArray) he ⟨hit, p⟩ hlt hne (by simp; exact ⟨hne, fun z => hae z.symm⟩) fun y h' tk hPy ho hst' hT hsz hk => ?_
    have hyu : y = u := by
      have : its.toArray[i]? = some u := by simpa using hu
      rw [this] at hPy
      exact (Option.some.inj hPy).symm
    subst hyu
    obtain ⟨hit', _⟩ := hst'
    refine ⟨_, rfl, wpAny_letOwnedTupleGo_enum (s := { s with heap := h', toks := tk + 1 }) ho fun h'' he' sb => ?_⟩
    have hT2 : h''.get? s.heap.objs.size = some { cls := .type "tuple", data := .seq #[.int i tk, y] } := (sb.2 _ (Nat.ne_of_gt hel)).trans hT
    have new : ObjOk X.prog X.w (upd H s.heap.objs.size (.tup [.int (i : Nat), x])) h'' s.heap.objs.size (.tup [.int (i : Nat), x]) :=
      ⟨by show 2 ≤ sizeLine; decide, [.int i tk, y], .cons ⟨_, rfl⟩ (.cons ru .nil), ⟨_, hT2, rfl, _, rfl⟩⟩
    have I1 : Inv X pins σ (upd H s.heap.objs.size (.tup [.int (i : Nat), x])) { s with heap := h'', toks := tk + 1 } :=
      I.turnedNew (ch := [e, it]) (fun b ob hb q => (sb.2 b (fun z => hb (by simp [z]))).trans (hk b ob (fun z => hb (by simp [z])) (fun z => hb (by simp [z])) q)) hf (Nat.le_refl _) new
    refine ⟨.ref s.heap.objs.size, _, I1, rfl, ⟨_, x, rfl, I.hok.fresh (Nat.le_refl _), rfl, fun ys hy => by rw [I.tuple_inj hy hq]; exact hx⟩, ⟨⟨y, ?_⟩, hit'.at fun o q => (sb.2 it (Ne.symm hne)).trans q, hne, hae, hai⟩, fun b hb => ?_⟩
    · have e1 : ((i + 1 : Nat) : Int) = (i : Int) + 1 := by omega
      rw [e1]; exact he'
    · have hb' : b < s.heap.objs.size := by
        have e' : b = e ∨ b = it := by simpa using hb
        rcases e' with z | z
        · rw [z]; exact hel
        · rw [z]; exact hil
      rw [upd_ne (Nat.ne_of_lt hb')]
      exact (hf b hb).1
  done := by
    intro X hP hw hK hc i pins s σ H E I hf st hg
    subst hP hw hK
    obtain ⟨⟨old, he⟩, hit, hne, hae, hai⟩ := st
    obtain ⟨xs, hq, hx⟩ := hg
    obtain ⟨its, rv, p, hz⟩ := I.tuple hq
    obtain ⟨f0, f1, f2, f3, f4, f5⟩ := hf it (by simp)
    have hl := rv.length
    have hT : s.TypeIs (.ref e) "enumerate" := ⟨_, he, rfl⟩
    unfold pyNext
    refine wpAny_bind (wpAny_attempt (wpAny_callSpecial?_slot (name := Str.ofString "__next__") hT F.slot_enumerate_next
      (wpAny_call_entry F.slot_enumerate_next hT F.entry_enumerate_next ?_ (F.args_enumerate_next_1 _))))
    show wpAny _ _ (field (.ref e) 2 >>= _) _ _ _
    refine wpAny_bind (wpAny_field he rfl (x := .ref it) rfl ?_)
    refine wpAny_bind (RZ.nextOf_tuple_end (items := its.toArray) (I.ok.hd hc) hit p (by simp; omega) fun h' x he' hx' => ?_)
    obtain ⟨o, ho, hcl⟩ := hx'
    refine wpAny_bind (wpAny_isInstance (T := "StopIteration") (b := true) ⟨o, ho, hcl⟩ isSubtype_stop ?_)
    exact wpAny_pure ⟨rfl, I.turned (t' := s.toks) (fun b o hb q => he' b o hb q) f0 f1 f3 f4 f5⟩
  self := fun A i s Q E st h => let ⟨⟨_, he⟩, _⟩ := st; wpAny_pyIter_enum he h
def iEnumA (K : PySem.W.Frag) (ta : TA) : TI := fun σ H R => ta σ H fun vs H1 => ∃ a xs, vs = [.ref a] ∧ ((SqL K H1 a xs ∧ R (Ite K a) H1) ∨ (SqT K H1 a xs ∧ R (IteT K a) H1))
theorem pi_enumA {X : Cx} {e : Expr} {ta : TA} {p pos tpos : Pos} {elts : List Expr} {kk : Nat} (hg : Gl X "enumerate") (hm : X.mg "enumerate" = none) (ha : PA X [e] ta) (hs : starEach [e] X.env = [(false, eval e X.env)] := by rfl) :
    PI X (.Tuple elts kk tpos) (.Call (.Name "enumerate" p) [e] [] pos) (iEnumA X.K ta) := by
  refine ⟨fun pins s σ H R I h => ?_⟩
  refine Call_ (ld_blt I hg hm boot_enumerate (PyProof.Rows.callWith_type1 (thn (ha.run pos pins s σ H _ I h) fun us s1 ⟨vs, H1, I1, r1, q1⟩ => ?_) hs rfl))
  obtain ⟨a, xs, ex, q1⟩ := q1
  subst ex
  cases r1 with
  | cons r rr =>
    cases rr
    cases r
    have fresh : ∀ b, b ∈ [s1.heap.objs.size + 1, s1.heap.objs.size] → FpOk X pins H1 b := fun b hb => by
      have e' : b = s1.heap.objs.size + 1 ∨ b = s1.heap.objs.size := by simpa using hb
      have hle : s1.heap.objs.size ≤ b := by
        rcases e' with z | z
        · rw [z]; exact Nat.le_add_right _ _
        · rw [z]; exact Nat.le_refl _
      exact I1.fpOk hle (I1.hok.fresh hle)
    rcases q1 with ⟨hq, q⟩ | ⟨hq, q⟩
    · obtain ⟨its, rv, p', hz⟩ := I1.list hq
      refine call_enumerate_list p'.isList fun h' he hit hsz hk => wpAny_pyIter_enum he ?_
      have I2 : Inv X pins σ H1 { s1 with heap := h' } := I1.kept (t' := s1.toks) hk
      exact ⟨s1.heap.objs.size + 1, [s1.heap.objs.size + 1, s1.heap.objs.size], _, _, H1, rfl, I2, turn_enum a (s1.heap.objs.size + 1) s1.heap.objs.size, ⟨⟨.none, he⟩, hit, Nat.succ_ne_self _⟩, fresh, q⟩
    · obtain ⟨its, rv, p', hz⟩ := I1.tuple hq
      have hal : a < s1.heap.objs.size := by obtain ⟨_, q, _⟩ := id p'; exact Heap.lt_size q
      refine enum_begins1 (begins_tuple a its.toArray) p' fun h' he hit hsz hk => wpAny_pyIter_enum he ?_
      have I2 : Inv X pins σ H1 { s1 with heap := h' } := I1.kept (t' := s1.toks) hk
      exact ⟨s1.heap.objs.size + 1, [s1.heap.objs.size + 1, s1.heap.objs.size], _, _, H1, rfl, I2, turn_enumT a (s1.heap.objs.size + 1) s1.heap.objs.size, ⟨⟨.none, he⟩, ⟨_, hit, rfl, rfl⟩, Nat.succ_ne_self _, Nat.ne_of_lt (Nat.lt_succ_of_lt hal), Nat.ne_of_lt hal⟩, fresh, q⟩

/-! ### as data -/
def enD (xs : List D) : List D := xs.mapIdx fun i x => .tup [.int (i : Nat), x]
def zipD (xs ys : List D) : List D := List.zipWith (fun x y => .tup [x, y]) xs ys
theorem enD_len (xs : List D) : (enD xs).length = xs.length := by unfold enD; rw [List.length_mapIdx]
def iEn (f : EE) : EL := fun env S => (f env S).bind fun d S => match seqD d with
  | some ds => .ok (enD ds) S
  | none => .stuck
/-- both lists, or both tuples -/
def two : D → D → Option (List D × List D)
  | .lst xs, .lst ys => some (xs, ys)
  | .tup xs, .tup ys => some (xs, ys)
  | _, _ => none
def iZi (f g : EE) : EL := fun env S => (f env S).bind fun d S => (g env S).bind fun e S => match two d e with
  | some p => .ok (zipD p.1 p.2) S
  | none => .stuck
section
variable {K : PySem.W.Frag} {c : Bas} {a b : Addr} {ds es : List D} {vs ws : List V}
theorem walkD_new {J : It} {out : List D} (n : Nat) (hn : out.length = n) (hz : n ≤ sizeLine) (go : ∀ i c' S', Adv c c' → Sok K c' S' → i < n → J.go i c'.H) (stop : ∀ c' S', Adv c c' → Sok K c' S' → J.stop n c'.H)
    (y : ∀ i c' S' v H', Adv c c' → Sok K c' S' → i < n → J.yld i c'.H v H' → ∃ T x y dx dy, v = .ref T ∧ c'.H T = none ∧ H' = upd c'.H T (.tup [x, y]) ∧ out[i]? = some (.tup [dx, dy]) ∧ Rp K c'.F c'.ι dx x ∧ Rp K c'.F c'.ι dy y) : WalkD K c J out where
  len := by rw [hn]; exact hz
  go := fun i c' S' ad ok hi => go i c' S' ad ok (by rw [← hn]; exact hi)
  stop := fun c' S' ad ok => by rw [hn]; exact stop c' S' ad ok
  yld := fun i c' S' v H' ad ok hi h => by
    obtain ⟨T, x, y, dx, dy, e1, e2, e3, e4, r1, r2⟩ := y i c' S' v H' ad ok (by rw [← hn]; exact hi) h
    subst e1 e3
    obtain ⟨s2, o2, r⟩ := new_tup (ds := [dx, dy]) (vs := [x, y]) ok e2 (by show 2 ≤ sizeLine; decide) ⟨x, [y], rfl, r1, y, [], rfl, r2, rfl⟩
    exact ⟨_, _, e4, s2, o2, r⟩
theorem enD_get {xs : List D} {i : Nat} {d : D} (h : xs[i]? = some d) : (enD xs)[i]? = some (.tup [.int (i : Nat), d]) := by
  unfold enD
  rw [List.getElem?_mapIdx, h]
  rfl
theorem walkD_en (h : SqL K c.F a vs) (hl : vs.length ≤ sizeLine) (r : RpAll K c.F c.ι ds vs) : WalkD K c (Ite K a) (enD ds) :=
  walkD_new ds.length (enD_len ds) (by rw [← r.len]; exact hl) (fun i c' S' ad ok hi => by
      obtain ⟨v, hv, _⟩ := r.get (List.getElem?_eq_getElem hi)
      exact ⟨vs, v, ok.f.seq (ad.same.seq h), hv⟩) (fun c' S' ad ok => ⟨vs, ok.f.seq (ad.same.seq h), by rw [r.len]; exact Nat.le_refl _⟩) fun i c' S' v H' ad ok hi ⟨T, x, e1, e2, e3, e4⟩ => by
    obtain ⟨d, hd, rd⟩ := r.get' (e4 vs (ok.f.seq (ad.same.seq h)))
    exact ⟨T, _, x, .int (i : Nat), d, e1, e2, e3, enD_get hd, rfl, ad.rp rd⟩
theorem walkD_enT (h : SqT K c.F a vs) (hl : vs.length ≤ sizeLine) (r : RpAll K c.F c.ι ds vs) : WalkD K c (IteT K a) (enD ds) :=
  walkD_new ds.length (enD_len ds) (by rw [← r.len]; exact hl) (fun i c' S' ad ok hi => by
      obtain ⟨v, hv, _⟩ := r.get (List.getElem?_eq_getElem hi)
      exact ⟨vs, v, same_t ok.f (same_t ad.same h), hv⟩) (fun c' S' ad ok => ⟨vs, same_t ok.f (same_t ad.same h), by rw [r.len]; exact Nat.le_refl _⟩) fun i c' S' v H' ad ok hi ⟨T, x, e1, e2, e3, e4⟩ => by
    obtain ⟨d, hd, rd⟩ := r.get' (e4 vs (same_t ok.f (same_t ad.same h)))
    exact ⟨T, _, x, .int (i : Nat), d, e1, e2, e3, enD_get hd, rfl, ad.rp rd⟩
theorem zipD_get {xs ys : List D} {i : Nat} {d e : D} (h : xs[i]? = some d) (h' : ys[i]? = some e) : (zipD xs ys)[i]? = some (.tup [d, e]) := by
  unfold zipD
  rw [List.getElem?_zipWith, h, h']
theorem zipD_len (xs ys : List D) : (zipD xs ys).length = min xs.length ys.length := by unfold zipD; rw [List.length_zipWith]
theorem walkD_zi (h : SqL K c.F a vs) (h' : SqL K c.F b ws) (hl : vs.length ≤ sizeLine) (r : RpAll K c.F c.ι ds vs) (r' : RpAll K c.F c.ι es ws) : WalkD K c (Itz K a b) (zipD ds es) :=
  walkD_new (min ds.length es.length) (zipD_len ds es) (Nat.le_trans (Nat.min_le_left _ _) (by rw [← r.len]; exact hl)) (fun i c' S' ad ok hi => by
      obtain ⟨v, hv, _⟩ := r.get (List.getElem?_eq_getElem (Nat.lt_of_lt_of_le hi (Nat.min_le_left _ _)))
      obtain ⟨w, hw, _⟩ := r'.get (List.getElem?_eq_getElem (Nat.lt_of_lt_of_le hi (Nat.min_le_right _ _)))
      exact ⟨vs, ws, v, w, ok.f.seq (ad.same.seq h), ok.f.seq (ad.same.seq h'), hv, hw⟩) (fun c' S' ad ok => ⟨vs, ws, ok.f.seq (ad.same.seq h), ok.f.seq (ad.same.seq h'), by rw [r.len, r'.len]; omega⟩) fun i c' S' v H' ad ok hi ⟨T, x, y, e1, e2, e3, e4, e5⟩ => by
    obtain ⟨d, hd, rd⟩ := r.get' (e4 vs (ok.f.seq (ad.same.seq h)))
    obtain ⟨d', hd', rd'⟩ := r'.get' (e5 ws (ok.f.seq (ad.same.seq h')))
    exact ⟨T, x, y, d, d', e1, e2, e3, zipD_get hd hd', ad.rp rd, ad.rp rd'⟩
theorem walkD_ziT (h : SqT K c.F a vs) (h' : SqT K c.F b ws) (hl : vs.length ≤ sizeLine) (r : RpAll K c.F c.ι ds vs) (r' : RpAll K c.F c.ι es ws) : WalkD K c (RZ.ItzT K a b) (zipD ds es) :=
  walkD_new (min ds.length es.length) (zipD_len ds es) (Nat.le_trans (Nat.min_le_left _ _) (by rw [← r.len]; exact hl)) (fun i c' S' ad ok hi => by
      obtain ⟨v, hv, _⟩ := r.get (List.getElem?_eq_getElem (Nat.lt_of_lt_of_le hi (Nat.min_le_left _ _)))
      obtain ⟨w, hw, _⟩ := r'.get (List.getElem?_eq_getElem (Nat.lt_of_lt_of_le hi (Nat.min_le_right _ _)))
      exact ⟨vs, ws, v, w, same_t ok.f (same_t ad.same h), same_t ok.f (same_t ad.same h'), hv, hw⟩) (fun c' S' ad ok => ⟨vs, ws, same_t ok.f (same_t ad.same h), same_t ok.f (same_t ad.same h'), by rw [r.len, r'.len]; omega⟩) fun i c' S' v H' ad ok hi ⟨T, x, y, e1, e2, e3, e4, e5⟩ => by
    obtain ⟨d, hd, rd⟩ := r.get' (e4 vs (same_t ok.f (same_t ad.same h)))
    obtain ⟨d', hd', rd'⟩ := r'.get' (e5 ws (same_t ok.f (same_t ad.same h')))
    exact ⟨T, x, y, d, d', e1, e2, e3, zipD_get hd hd', ad.rp rd, ad.rp rd'⟩
end
section
variable {X : Cx} {K : PySem.W.Frag} {B : Bas} {e e2 : Expr} {f g : EE} {p p2 pos pos2 tpos : Pos} {elts : List Expr} {kk : Nat}
theorem i_enum (hK : X.K = K) (hg : Gl X "enumerate") (hm : X.mg "enumerate" = none) (h : PE X e (tD K B f)) (hs : starEach [e] X.env = [(false, eval e X.env)] := by rfl) :
    PI X (.Tuple elts kk tpos) (.Call (.Name "enumerate" p) [e] [] pos) (tI K B (iEn f)) := by
  subst hK
  refine (pi_enumA hg hm (pa_cons h pa_nil (hs := hs)) hs).imp fun σ H R ⟨F, ι, S, env, st, ds, S', e, q⟩ => ?_
  obtain ⟨d, S1, e1, e⟩ := Res.bind_ok e
  refine ⟨F, ι, S, env, st, d, S1, e1, fun v c1 s1 o1 r1 => ?_⟩
  cases d with
  | lst xs =>
    cases e
    obtain ⟨a, vs, ev, h1, hl, h2⟩ := r1
    exact ⟨a, vs, by rw [ev], .inl ⟨o1.f.seq h1, q _ c1 s1 o1 (walkD_en h1 hl h2)⟩⟩
  | tup xs =>
    cases e
    obtain ⟨a, vs, ev, h1, hl, h2⟩ := r1
    exact ⟨a, vs, by rw [ev], .inr ⟨same_t o1.f h1, q _ c1 s1 o1 (walkD_enT h1 hl h2)⟩⟩
  | non => cases e
  | bl b => cases e
  | int b => cases e
  | str b => cases e
  | mu b => cases e
  | ty b => cases e
theorem i_zip (hK : X.K = K) (hg : Gl X "zip") (hm : X.mg "zip" = none) (h : PE X e (tD K B f)) (h' : PE X e2 (tD K B g)) (hs : starEach [e, e2] X.env = (false, eval e X.env) :: starEach [e2] X.env := by rfl)
    (hs2 : starEach [e2] X.env = (false, eval e2 X.env) :: starEach [] X.env := by rfl) (hpl : (backTo pos (starEach [e2] X.env)).any (·.1) = false := by rfl) :
    PI X (.Tuple elts kk tpos) (.Call (.Name "zip" p) [e, e2] [] pos) (tI K B (iZi f g)) := by
  subst hK
  refine (RZ.pi_zipA hg hm (pa_cons h (pa_cons h' pa_nil (hs := hs2)) (hs := hs)) hs hpl).imp fun σ H R ⟨F, ι, S, env, st, ds, S', e, q⟩ => ?_
  obtain ⟨d, S1, e1, e⟩ := Res.bind_ok e
  obtain ⟨d2, S2, e2, e⟩ := Res.bind_ok e
  refine ⟨F, ι, S, env, st, d, S1, e1, fun v c1 s1 o1 r1 => ?_⟩
  refine ⟨c1.F, c1.ι, S1, env, st.step s1 o1, d2, S2, e2, fun v2 c2 s2 o2 r2 => ?_⟩
  split at e
  · rename_i pp hp
    cases e
    have r1' := s2.rp r1
    unfold two at hp
    split at hp
    · cases hp
      obtain ⟨a, vs, rfl, h1, hl, h2⟩ := r1'
      obtain ⟨b, ws, rfl, h1', hl', h2'⟩ := r2
      exact ⟨a, b, vs, ws, rfl, .inl ⟨o2.f.seq h1, o2.f.seq h1', q _ c2 (s1.trans s2) o2 (walkD_zi h1 h1' hl h2 h2')⟩⟩
    · cases hp
      obtain ⟨a, vs, rfl, h1, hl, h2⟩ := r1'
      obtain ⟨b, ws, rfl, h1', hl', h2'⟩ := r2
      exact ⟨a, b, vs, ws, rfl, .inr ⟨same_t o2.f h1, same_t o2.f h1', q _ c2 (s1.trans s2) o2 (walkD_ziT h1 h1' hl h2 h2')⟩⟩
    · cases hp
  · cases e
/-! list(enumerate(x)), list(zip(x, y)), of lists -/
theorem lay_pairs {c : Bas} {S : Sto} (ok : Sok K c S) : ∀ (L : List (Addr × V × V)) (es : List (D × D)), (L.map Prod.fst).Nodup → (∀ p ∈ L, c.H p.1 = none) → L.length = es.length →
    (∀ (i : Nat) (p : Addr × V × V) (e : D × D), L[i]? = some p → es[i]? = some e → Rp K c.F c.ι e.1 p.2.1 ∧ Rp K c.F c.ι e.2 p.2.2) →
    Step c ⟨layP c.F L, c.ι, layP c.H L⟩ ∧ Sok K ⟨layP c.F L, c.ι, layP c.H L⟩ S ∧ RpAll K (layP c.F L) c.ι (es.map fun e => .tup [e.1, e.2]) (L.map fun p => .ref p.1)
  | [], [], _, _, _, _ => ⟨Step.refl c, ok, rfl⟩
  | p :: L, [], _, _, h, _ => by cases h
  | [], e :: es, _, _, h, _ => by cases h
  | p :: L, e :: es, hn, hf, hl, hr => by
    rw [List.map_cons, List.nodup_cons] at hn
    obtain ⟨s1, o1, r1⟩ := lay_pairs ok L es hn.2 (fun q hq => hf q (List.mem_cons_of_mem _ hq)) (by simpa using hl) fun i q e' h1 h2 => hr (i + 1) q e' (by simpa using h1) (by simpa using h2)
    obtain ⟨ra, rb⟩ := hr 0 p e rfl rfl
    have hp : (Bas.mk (layP c.F L) c.ι (layP c.H L)).H p.1 = none := by
      show layP c.H L p.1 = none
      rw [layP_ne hn.1]
      exact hf p List.mem_cons_self
    obtain ⟨s2, o2, r2⟩ := new_tup (ds := [e.1, e.2]) (vs := [p.2.1, p.2.2]) o1 hp (by show 2 ≤ sizeLine; decide) ⟨_, _, rfl, s1.rp ra, _, _, rfl, s1.rp rb, rfl⟩
    exact ⟨s1.trans s2, o2, _, _, rfl, r2, s2.rpAll r1⟩
theorem new_pairs {c c0 : Bas} {S : Sto} {ps : List (V × V)} {es : List (D × D)} {Q : VK} (ok : Sok K c S) (s0 : Step c0 c) (hl : ps.length ≤ sizeLine) (hn : ps.length = es.length)
    (hr : ∀ (i : Nat) (p : V × V) (e : D × D), ps[i]? = some p → es[i]? = some e → Rp K c.F c.ι e.1 p.1 ∧ Rp K c.F c.ι e.2 p.2)
    (q : ∀ v c', Step c0 c' → Sok K c' S → NewAt K c0 c' (es.map fun e => .tup [e.1, e.2]) v → Q v c'.H) : tPairs ps c.H Q := by
  refine ⟨hl, fun as A hla hnd hf hA hAn => ?_⟩
  have hfst : (as.zip ps).map Prod.fst = as := List.map_fst_zip (Nat.le_of_eq hla)
  obtain ⟨s1, o1, r1⟩ := lay_pairs ok (as.zip ps) es (by rw [hfst]; exact hnd) (fun p hp => hf p.1 (by rw [← hfst]; exact List.mem_map.mpr ⟨p, hp, rfl⟩)) (by rw [List.length_zip, hla, Nat.min_self, hn]) fun i p e h1 h2 => by
    rw [List.getElem?_zip_eq_some] at h1
    exact hr i p.2 e h1.2 h2
  have hp : (Bas.mk (layP c.F (as.zip ps)) c.ι (layP c.H (as.zip ps))).H A = none := by
    show layP c.H (as.zip ps) A = none
    rw [layP_ne (by rw [hfst]; exact hA)]
    exact hAn
  have e1 : ((as.zip ps).map fun p => V.ref p.1) = as.map V.ref := by
    conv => rhs; rw [← hfst]
    rw [List.map_map]
    rfl
  rw [e1] at r1
  obtain ⟨s2, o2, n2⟩ := new_lst o1 hp (by rw [List.length_map, hla]; exact hl) r1
  exact q _ ⟨_, _, _⟩ ((s0.trans s1).trans s2) o2 (n2.from (s0.trans s1))
def eListEn (f : EE) : EL := fun env S => (f env S).bind fun d S => match d with
  | .lst ds => .ok (enD ds) S
  | _ => .stuck
def eListZi (f g : EE) : EL := fun env S => (f env S).bind fun d S => (g env S).bind fun e S => match d, e with
  | .lst xs, .lst ys => .ok (zipD xs ys) S
  | _, _ => .stuck
theorem n_listEn (hc : X.calm = true) (hK : X.K = K) (hg : Gl X "list") (hm : X.mg "list" = none) (hg2 : Gl X "enumerate") (hm2 : X.mg "enumerate" = none) (h : PE X e (tB K B f))
    (na : starEach [e] X.env = (false, eval e X.env) :: starEach [] X.env := by rfl)
    (nb : starEach [Expr.Call (.Name "enumerate" p2) [e] [] pos2] X.env = (false, eval (Expr.Call (.Name "enumerate" p2) [e] [] pos2) X.env) :: starEach [] X.env := by rfl) :
    PE X (.Call (.Name "list" p) [.Call (.Name "enumerate" p2) [e] [] pos2] [] pos) (tN K B (eListEn f)) := by
  subst hK
  refine (pe_listEnum hc hg hm hg2 hm2 h na nb).imp fun σ H Q ⟨F, ι, S, env, st, ds, S', e, q⟩ => ?_
  obtain ⟨d, S1, e1, e⟩ := Res.bind_ok e
  refine ⟨F, ι, S, env, st, d, S1, e1, fun v c1 s1 o1 r1 => ?_⟩
  split at e
  · rename_i xs
    cases e
    obtain ⟨a, vs, ev, h1, hl, h2⟩ := r1.lst o1
    refine ⟨a, vs, ev, h1, ?_⟩
    have ee : enD xs = (xs.mapIdx fun i x => (D.int (i : Nat), x)).map fun e => D.tup [e.1, e.2] := by
      refine List.ext_getElem? fun i => ?_
      unfold enD
      rw [List.getElem?_map, List.getElem?_mapIdx, List.getElem?_mapIdx, Option.map_map]
      rfl
    rw [ee] at q
    refine new_pairs o1 s1 (by unfold enV; rw [List.length_mapIdx]; exact hl) (by unfold enV; rw [List.length_mapIdx, List.length_mapIdx]; exact h2.len) (fun i p e g1 g2 => ?_) q
    unfold enV at g1
    rw [List.getElem?_mapIdx] at g1 g2
    obtain ⟨x, hx, rfl⟩ := Option.map_eq_some_iff.mp g1
    obtain ⟨d, hd, rfl⟩ := Option.map_eq_some_iff.mp g2
    obtain ⟨x', hx', rx⟩ := h2.get hd
    rw [hx] at hx'
    cases hx'
    exact ⟨rfl, rx⟩
  · cases e
theorem n_listZi (hc : X.calm = true) (hK : X.K = K) (hg : Gl X "list") (hm : X.mg "list" = none) (hg2 : Gl X "zip") (hm2 : X.mg "zip" = none) (h : PE X e (tB K B f)) (h' : PE X e2 (tB K B g))
    (hs : starEach [e, e2] X.env = (false, eval e X.env) :: starEach [e2] X.env := by rfl) (hs2 : starEach [e2] X.env = (false, eval e2 X.env) :: starEach [] X.env := by rfl) (hpl : (backTo pos2 (starEach [e2] X.env)).any (·.1) = false := by rfl)
    (nb : starEach [Expr.Call (.Name "zip" p2) [e, e2] [] pos2] X.env = (false, eval (Expr.Call (.Name "zip" p2) [e, e2] [] pos2) X.env) :: starEach [] X.env := by rfl) :
    PE X (.Call (.Name "list" p) [.Call (.Name "zip" p2) [e, e2] [] pos2] [] pos) (tN K B (eListZi f g)) := by
  subst hK
  refine (pe_listZip hc hg hm hg2 hm2 (pa_cons h (pa_cons h' pa_nil (hs := hs2)) (hs := hs)) hs hpl nb).imp fun σ H Q ⟨F, ι, S, env, st, ds, S', e, q⟩ => ?_
  obtain ⟨d, S1, e1, e⟩ := Res.bind_ok e
  obtain ⟨d2, S2, e2, e⟩ := Res.bind_ok e
  refine ⟨F, ι, S, env, st, d, S1, e1, fun v c1 s1 o1 r1 => ?_⟩
  refine ⟨c1.F, c1.ι, S1, env, st.step s1 o1, d2, S2, e2, fun v2 c2 s2 o2 r2 => ?_⟩
  split at e
  · rename_i xs ys _
    cases e
    obtain ⟨a, vs, ev, h1, hl, h2⟩ := (r1.step s2).lst o2
    obtain ⟨b, ws, ew, h1', hl', h2'⟩ := r2.lst o2
    refine ⟨a, b, vs, ws, by rw [ev, ew], h1, h1', ?_⟩
    have ee : zipD xs ys = (xs.zip ys).map fun e => D.tup [e.1, e.2] := by
      unfold zipD
      rw [List.zip, List.map_zipWith]
    rw [ee] at q
    refine new_pairs o2 (s1.trans s2) (by rw [List.length_zip]; exact Nat.le_trans (Nat.min_le_left _ _) hl) (by rw [List.length_zip, List.length_zip, h2.len, h2'.len]) (fun i p e g1 g2 => ?_) q
    rw [List.getElem?_zip_eq_some] at g1 g2
    obtain ⟨x, hx, rx⟩ := h2.get g2.1
    obtain ⟨y, hy, ry⟩ := h2'.get g2.2
    rw [hx] at g1
    rw [hy] at g1
    obtain ⟨k1, k2⟩ := g1
    cases k1
    cases k2
    exact ⟨rx, ry⟩
  · cases e
end
end DL

/-! DL11: two clauses, min with default, isinstance, pop, module's constants. -/
namespace DL
open PySem PySem.Spec PyProof.Rows L2

/-! ### comprehensions of two clauses -/
def compGo2 (g : GE) (p : ET) (it1 : EL) (g1 : GE) (p1 : ET) (f : EE) (vs1 : List Nat) (env0 : Env) : List D → Sto → Res (List D)
  | [], S => .ok [] S
  | d :: ds, S => match g d env0 with
    | none => .stuck
    | some env => (p env S).bind fun k S => if k = true then (it1 env S).bind fun es S => (compGo g1 p1 f (wipeE env vs1) es S).bind fun ys S => (compGo2 g p it1 g1 p1 f vs1 env0 ds S).bind fun zs S => .ok (ys ++ zs) S
      else compGo2 g p it1 g1 p1 f vs1 env0 ds S
def eComp2 (it : EL) (g : GE) (p : ET) (it1 : EL) (g1 : GE) (p1 : ET) (f : EE) (vs vs1 : List Nat) : EL := fun env S => (it env S).bind fun ds S => (compGo2 g p it1 g1 p1 f vs1 (wipeE env vs) ds S).bind fun ys S =>
  if ys.length ≤ 1000000 then .ok ys S else .stuck
theorem nonadr {K : PySem.W.Frag} {c c1 : Bas} {L : Addr} (s : Step c c1) (h : c1.H L = none) : c.H L = none := by
  cases q : c.H L with
  | none => rfl
  | some o => exact absurd h (s.dom L (by rw [q]; exact fun z => by cases z))
/-- a target stores data alone -/
def GOk (g : GE) (ts : List Nat) : Prop := ∀ d env env', g d env = some env' → ∀ (i : Nat) (ds : List D), env'[i]? = some (some (.own ds)) → i ∉ ts ∧ env[i]? = some (some (.own ds))
def GsOk (g : List D → Env → Option Env) (ts : List Nat) : Prop := ∀ d env env', g d env = some env' → ∀ (i : Nat) (ds : List D), env'[i]? = some (some (.own ds)) → i ∉ ts ∧ env[i]? = some (some (.own ds))
theorem go_n (i : Nat) : GOk (gN i) [i] := fun d env env' h j ds e => by
  cases h
  by_cases hj : i = j
  · subst hj
    have hl : i < env.length := by
      have := (List.getElem?_eq_some_iff.mp e).1
      rw [List.length_set] at this
      exact this
    rw [List.getElem?_set_self hl] at e
    cases e
  · rw [List.getElem?_set_ne hj] at e
    exact ⟨fun z => hj (List.mem_singleton.mp z).symm, e⟩
theorem gso_nil : GsOk gsNil [] := fun d env env' h j ds e => by
  cases d with
  | nil => cases h; exact ⟨fun z => (by cases z), e⟩
  | cons _ _ => cases h
theorem gso_cons {g : GE} {gs : List D → Env → Option Env} {ts us : List Nat} (h1 : GOk g ts) (h2 : GsOk gs us) : GsOk (gsCons g gs) (ts ++ us) := fun d env env' h j ds e => by
  cases d with
  | nil => cases h
  | cons d r =>
    obtain ⟨env1, e1, e2⟩ := Option.bind_eq_some_iff.mp (show (g d env).bind (gs r) = some env' from h)
    obtain ⟨n1, k1⟩ := h2 r env1 env' e2 j ds e
    obtain ⟨n2, k2⟩ := h1 d env env1 e1 j ds k1
    exact ⟨fun z => (List.mem_append.mp z).elim n2 n1, k2⟩
theorem go_t {n : Nat} {gs : List D → Env → Option Env} {ts : List Nat} (h : GsOk gs ts) : GOk (gTp n gs) ts := fun d env env' e => by
  cases d with
  | tup ds =>
    have e' : (if ds.length = n then gs ds env else none) = some env' := e
    split at e'
    · exact h ds env env' e'
    · cases e'
  | lst ds =>
    have e' : (if ds.length = n then gs ds env else none) = some env' := e
    split at e'
    · exact h ds env env' e'
    · cases e'
  | non => cases e
  | bl b => cases e
  | int b => cases e
  | str b => cases e
  | mu b => cases e
  | ty b => cases e
theorem lc2_of {K : PySem.W.Frag} {B : Bas} {it it1 : EL} {g g1 : GE} {ts ts1 vs vs1 : List Nat} {p p1 : ET} {f : EE} (hts : ∀ t ∈ ts, t ∈ vs) (hts1 : ∀ t ∈ ts1, t ∈ vs1) (hgo : GOk g ts) {σ : St} {H : Hp} {Q : VK} (h : tN K B (eComp2 it g p it1 g1 p1 f vs vs1) σ H Q) :
    tLc2 (tI K B it) (tG K B g ts) (tT K B p) (tI K B it1) (tG K B g1 ts1) (tT K B p1) (tD K B f) vs vs1 σ H Q := by
  obtain ⟨F, ι, S, env, st, ys, S', e, k⟩ := h
  obtain ⟨ds, S1, e1, e⟩ := Res.bind_ok e
  obtain ⟨ys', S2', e0, e⟩ := Res.bind_ok e
  split at e
  · rename_i hbig
    cases e
    refine ⟨F, ι, S, env, st, ds, S1, e1, fun J c1 s1 o1 wk => fun L hL => ?_⟩
    have nH : H L = none := nonadr (K := K) (c := ⟨F, ι, H⟩) s1 hL
    obtain ⟨sn, on, L', vs0, eL, _, hL2, _, _, hF0, hι0⟩ := new_lst (ds := []) (vs := []) o1 hL (Nat.zero_le _) rfl
    cases eL
    refine ⟨fun i m H2 => m = ds.length - i ∧ i ≤ ds.length ∧ ∃ F2 ι2 S2 acc av, Step c1 ⟨F2, ι2, H2⟩ ∧ Sok K ⟨F2, ι2, H2⟩ S2 ∧ LAt ⟨F2, ι2, H2⟩ L (.lst av) ∧ RpAll K F2 ι2 acc av ∧
      ∃ zs, compGo2 g p it1 g1 p1 f vs1 (wipeE env vs) (ds.drop i) S2 = .ok zs S' ∧ acc ++ zs = ys, ⟨ds.length, by omega, Nat.zero_le _, c1.F, c1.ι, S1, [], [], sn, on, ⟨upd_same, hF0, hι0⟩, rfl, ys, e0, rfl⟩, fun i m H2 w => ?_⟩
    obtain ⟨rfl, hi, F2, ι2, S2, acc, av, s2, o2, la, ra, zs, e2, e3⟩ := w
    by_cases hlt : i < ds.length
    · refine .inr ⟨wk.go i ⟨F2, ι2, H2⟩ S2 s2.adv o2 hlt, ?_⟩
      have hd : ds.drop i = ds[i] :: ds.drop (i + 1) := List.drop_eq_getElem_cons hlt
      rw [hd] at e2
      refine ⟨fun H' => i + 1 ≤ ds.length ∧ ∃ F2 ι2 S2 acc av, Step c1 ⟨F2, ι2, H'⟩ ∧ Sok K ⟨F2, ι2, H'⟩ S2 ∧ LAt ⟨F2, ι2, H'⟩ L (.lst av) ∧ RpAll K F2 ι2 acc av ∧
        ∃ zs, compGo2 g p it1 g1 p1 f vs1 (wipeE env vs) (ds.drop (i + 1)) S2 = .ok zs S' ∧ acc ++ zs = ys, fun H' n => ⟨ds.length - (i + 1), by omega, rfl, n⟩, fun x H' y => ?_⟩
      obtain ⟨d, F3, hd3, s3, o3, r3⟩ := wk.yld i ⟨F2, ι2, H2⟩ S2 x H' s2.adv o2 hlt y
      have hdi : ds[i] = d := by
        rw [List.getElem?_eq_getElem hlt] at hd3
        exact Option.some.inj hd3
      rw [hdi] at e2
      have e2' : (match g d (wipeE env vs) with
        | none => Res.stuck
        | some env => (p env S2).bind fun k S => if k = true then (it1 env S).bind fun es S => (compGo g1 p1 f (wipeE env vs1) es S).bind fun ys S => (compGo2 g p it1 g1 p1 f vs1 (wipeE _ vs) (ds.drop (i + 1)) S).bind fun zs S => .ok (ys ++ zs) S
          else compGo2 g p it1 g1 p1 f vs1 (wipeE _ vs) (ds.drop (i + 1)) S) = .ok zs S' := e2
      split at e2'
      · cases e2'
      · rename_i env3 hg3
        have st3 : Stt K B ⟨F3, ι2, H'⟩ S2 (wipe σ vs) (wipeE env vs) := ((st.step s1 o1).step (s2.trans s3) o3).wipe vs
        refine ⟨F3, ι2, S2, _, d, env3, st3, r3, hg3, fun σ4 st4 hl4 hf4 => ?_⟩
        have hw : wipe σ4 vs = wipe σ vs := by
          rw [← wipe_idem (σ := σ)]
          exact wipe_eq hl4 fun j hj => hf4 j fun z => hj (hts j z)
        refine ⟨hw, ?_⟩
        obtain ⟨k5, S5, e5, e6⟩ := Res.bind_ok e2'
        refine ⟨F3, ι2, S2, env3, st4, k5, S5, e5, fun c5 s5 o5 => ?_⟩
        have sc5 : Step c1 c5 := (s2.trans s3).trans s5
        have la5 : LAt c5 L (.lst av) := la.step (s3.trans s5)
        cases k5 with
        | true =>
          rw [if_pos rfl] at e6
          obtain ⟨es, S6, e7, e8⟩ := Res.bind_ok e6
          refine iteT ⟨c5.F, c5.ι, S5, env3, st4.step s5 o5, es, S6, e7, fun J1 c6 s6 o6 wk1 => ?_⟩
          have la6 : LAt c6 L (.lst av) := la5.step s6
          have st6 := (st4.step s5 o5).step s6 o6
          have nL1 : c1.H L = none := hL
          refine ⟨fun j m1 H7 => m1 = es.length - j ∧ j ≤ es.length ∧ ∃ F7 ι7 S7 acc7 av7, Step c1 ⟨F7, ι7, H7⟩ ∧ Adv c6 ⟨F7, ι7, H7⟩ ∧ Sok K ⟨F7, ι7, H7⟩ S7 ∧ Stt K B ⟨F7, ι7, H7⟩ S7 σ4 env3 ∧ LAt ⟨F7, ι7, H7⟩ L (.lst av7) ∧ RpAll K F7 ι7 acc7 av7 ∧
            ∃ ys7 S8, compGo g1 p1 f (wipeE env3 vs1) (es.drop j) S7 = .ok ys7 S8 ∧ ∃ zs7, compGo2 g p it1 g1 p1 f vs1 (wipeE env vs) (ds.drop (i + 1)) S8 = .ok zs7 S' ∧ acc7 ++ (ys7 ++ zs7) = ys, ?_, fun j m1 H7 w7 => ?_⟩
          · obtain ⟨ys7, S8, e9, e10⟩ := Res.bind_ok e8
            obtain ⟨zs7, S9, e11, e12⟩ := Res.bind_ok e10
            cases e12
            exact ⟨es.length, rfl, Nat.zero_le _, c6.F, c6.ι, S6, acc, av, sc5.trans s6, Adv.refl _, o6, st6, la6, s6.rpAll (s5.rpAll (s3.rpAll ra)), ys7, S8, e9, zs7, e11, e3⟩
          · obtain ⟨rfl, hj, F7, ι7, S7, acc7, av7, s7, ad7, o7, st7, la7, ra7, ys7, S8, e9, zs7, e11, e12⟩ := w7
            by_cases hlj : j < es.length
            · refine .inr ⟨wk1.go j ⟨F7, ι7, H7⟩ S7 ad7 o7 hlj, ?_⟩
              have hd1 : es.drop j = es[j] :: es.drop (j + 1) := List.drop_eq_getElem_cons hlj
              rw [hd1] at e9
              refine ⟨fun H7 => j + 1 ≤ es.length ∧ ∃ F7 ι7 S7 acc7 av7, Step c1 ⟨F7, ι7, H7⟩ ∧ Adv c6 ⟨F7, ι7, H7⟩ ∧ Sok K ⟨F7, ι7, H7⟩ S7 ∧ Stt K B ⟨F7, ι7, H7⟩ S7 σ4 env3 ∧ LAt ⟨F7, ι7, H7⟩ L (.lst av7) ∧ RpAll K F7 ι7 acc7 av7 ∧
                ∃ ys7 S8, compGo g1 p1 f (wipeE env3 vs1) (es.drop (j + 1)) S7 = .ok ys7 S8 ∧ ∃ zs7, compGo2 g p it1 g1 p1 f vs1 (wipeE env vs) (ds.drop (i + 1)) S8 = .ok zs7 S' ∧ acc7 ++ (ys7 ++ zs7) = ys, fun H' n => ⟨es.length - (j + 1), by omega, rfl, n⟩, fun x H' y => ?_⟩
              obtain ⟨d8, F8, hd8, s8, o8, r8⟩ := wk1.yld j ⟨F7, ι7, H7⟩ S7 x H' ad7 o7 hlj y
              have hdj : es[j] = d8 := by
                rw [List.getElem?_eq_getElem hlj] at hd8
                exact Option.some.inj hd8
              rw [hdj] at e9
              have e9' : (match g1 d8 (wipeE env3 vs1) with
                | none => Res.stuck
                | some env => (p1 env S7).bind fun k S => if k = true then (f env S).bind fun y S => (compGo g1 p1 f (wipeE env3 vs1) (es.drop (j + 1)) S).bind fun ys S => .ok (y :: ys) S else compGo g1 p1 f (wipeE env3 vs1) (es.drop (j + 1)) S) = .ok ys7 S8 := e9
              split at e9'
              · cases e9'
              · rename_i env8 hg8
                have st8 : Stt K B ⟨F8, ι7, H'⟩ S7 (wipe σ4 vs1) (wipeE env3 vs1) := (st7.step s8 o8).wipe vs1
                refine ⟨F8, ι7, S7, _, d8, env8, st8, r8, hg8, fun σ9 st9 hl9 hf9 => ?_⟩
                have hw9 : wipe σ9 vs1 = wipe σ4 vs1 := by
                  rw [← wipe_idem (σ := σ4)]
                  exact wipe_eq hl9 fun j hj => hf9 j fun z => hj (hts1 j z)
                refine ⟨hw9, ?_⟩
                obtain ⟨k10, S10, e13, e14⟩ := Res.bind_ok e9'
                refine ⟨F8, ι7, S7, env8, st9, k10, S10, e13, fun c10 s10 o10 => ?_⟩
                have la10 : LAt c10 L (.lst av7) := la7.step (s8.trans s10)
                cases k10 with
                | true =>
                  rw [if_pos rfl] at e14
                  obtain ⟨y11, S11, e15, e16⟩ := Res.bind_ok e14
                  obtain ⟨ys12, S12, e17, e18⟩ := Res.bind_ok e16
                  cases e18
                  refine iteT ⟨c10.F, c10.ι, S10, env8, st9.step s10 o10, y11, S11, e15, fun v11 c11 s11 o11 r11 => ?_⟩
                  have la11 : LAt c11 L (.lst av7) := la10.step s11
                  have hlen : av7.length < sizeLine := by
                    have h1 : ys.length ≤ 1000000 := hbig
                    rw [← e12, List.length_append, List.length_append, List.length_cons] at h1
                    rw [ra7.len]
                    exact sizeM (by omega)
                  have sAll : Step c1 c11 := ((s7.trans s8).trans s10).trans s11
                  have stB : Stt K B c11 S11 σ4 env3 := ((st7.step s8 o8).step s10 o10).step s11 o11
                  refine ⟨av7, la11.1, hlen, hlj, c11.F, c11.ι, S11, acc7 ++ [y11], av7 ++ [v11], sAll.upd_new nL1, ((ad7.trans s8.adv).trans s10.adv).trans ⟨s11.same, s11.pre⟩, o11.upd la11.2.1 la11.2.2, ?_, ⟨upd_same, la11.2⟩, (s11.rpAll (s10.rpAll (s8.rpAll ra7))).snoc r11, ys12, S8, e17, zs7, e11, by rw [← e12]; simp⟩
                  -- the names' own lists are elsewhere
                  refine ⟨o11.upd la11.2.1 la11.2.2, ⟨stB.env.len, fun q x ex => ?_, stB.env.inj⟩, ?_⟩
                  · obtain ⟨v, hv, hx⟩ := stB.env.at_ q x ex
                    refine ⟨v, hv, ?_⟩
                    cases x with
                    | sh dd => exact hx
                    | own dd =>
                      obtain ⟨b, ws, q1, q2, q3, q4, q5, q6, q7⟩ := hx
                      -- the name had that list before L was laid
                      obtain ⟨nq, ex0⟩ := hgo d _ env3 hg3 q dd ex
                      obtain ⟨v0, hv0, b0, ws0, q10, q20, _⟩ := ((st.step s1 o1).wipe vs).env.at_ q _ ex0
                      rw [← hf4 q nq, hv] at hv0
                      cases hv0
                      rw [q1] at q10
                      cases q10
                      have hbL : b ≠ L := ne_of_none q20 nL1
                      refine ⟨b, ws, q1, ?_, q3, q4, q5, q6, q7⟩
                      show upd c11.H L _ b = some _
                      rw [upd_ne hbL]
                      exact q2
                  · exact stB.st.upd_new (nonadr (K := K) (st.st.trans s1) hL)
                | false =>
                  rw [if_neg Bool.false_ne_true] at e14
                  exact iteF ⟨hlj, c10.F, c10.ι, S10, acc7, av7, (s7.trans s8).trans s10, (ad7.trans s8.adv).trans s10.adv, o10, (st7.step s8 o8).step s10 o10, la10, s10.rpAll (s8.rpAll ra7), ys7, S8, e14, zs7, e11, e12⟩
            · have hj' : j = es.length := by omega
              subst hj'
              rw [List.drop_length] at e9
              cases e9
              exact .inl ⟨wk1.stop ⟨F7, ι7, H7⟩ _ ad7 o7, hlt, F7, ι7, S7, acc7, av7, s7, o7, la7, ra7, zs7, e11, e12⟩
        | false =>
          rw [if_neg Bool.false_ne_true] at e6
          exact iteF ⟨hlt, c5.F, c5.ι, S5, acc, av, sc5, o5, la5, s5.rpAll (s3.rpAll ra), zs, e6, e3⟩
    · have hi' : i = ds.length := by omega
      subst hi'
      rw [List.drop_length] at e2
      cases e2
      rw [List.append_nil] at e3
      subst e3
      exact .inl ⟨wk.stop ⟨F2, ι2, H2⟩ _ s2.adv o2, k _ ⟨F2, ι2, H2⟩ (s1.trans s2) o2 ⟨L, av, rfl, nH, la.1, by rw [ra.len]; exact sizeM' hbig, ra, la.2.1, la.2.2⟩⟩
  · cases e
section
variable {X : Cx} {K : PySem.W.Frag} {B : Bas}
variable {elt tg iter tg1 iter1 : Expr} {ifs ifs1 : List Expr} {scope : Scope} {own : List (Str × Nat)} {pos : Pos} {it it1 : EL} {g g1 : GE} {ts ts1 vs1 : List Nat} {p p1 : ET} {f : EE}
theorem n_lc2 (hc : X.calm = true) (hN : X.N.Nodup) (hi : PI X tg iter (tI K B it)) (ok : BlkOk X.N X.env.scope scope own)
    (hg : ∀ (s : Shared) (H : Hp) (C : Addr) (cl : List (Str × Addr)) (fp : List Addr), PG (X.blk s H scope (compEnvC scope cl C X.env) fp) tg (tG K B g ts)) (ht : ∀ (s : Shared) (H : Hp) (C : Addr) (cl : List (Str × Addr)) (fp : List Addr), PTs (X.blk s H scope (compEnvC scope cl C X.env) fp) ifs (tT K B p))
    (hi1 : ∀ (s : Shared) (H : Hp) (C : Addr) (cl : List (Str × Addr)) (fp : List Addr), PI (X.blk s H scope (compEnvC scope cl C X.env) fp) tg1 iter1 (tI K B it1))
    (hg1 : ∀ (s : Shared) (H : Hp) (C : Addr) (cl : List (Str × Addr)) (fp : List Addr), PG (X.blk s H scope (compEnvC scope cl C X.env) fp) tg1 (tG K B g1 ts1)) (ht1 : ∀ (s : Shared) (H : Hp) (C : Addr) (cl : List (Str × Addr)) (fp : List Addr), PTs (X.blk s H scope (compEnvC scope cl C X.env) fp) ifs1 (tT K B p1))
    (he : ∀ (s : Shared) (H : Hp) (C : Addr) (cl : List (Str × Addr)) (fp : List Addr), PE (X.blk s H scope (compEnvC scope cl C X.env) fp) elt (tD K B f)) (hts : ∀ t ∈ ts, t ∈ own.map (·.2)) (hts1 : ∀ t ∈ ts1, t ∈ ts1 ++ vs1) (hv1 : ∀ t ∈ ts1 ++ vs1, t ∈ own.map (·.2)) (hgo : GOk g ts)
    (hs : ∀ x, foldedSetIterable iter X.env x = pure x := by intro _; rfl) (hs1 : ∀ env x, foldedSetIterable iter1 env x = pure x := by intro _ _; rfl) :
    PE X (.ListComp elt [⟨tg, iter, ifs, 0⟩, ⟨tg1, iter1, ifs1, 0⟩] scope pos) (tN K B (eComp2 it g p it1 g1 p1 f (own.map (·.2)) (ts1 ++ vs1))) :=
  (pe_lc2 hc hN hi ok hv1 hg ht hi1 hg1 ht1 he hs hs1).imp fun σ H Q h => lc2_of hts hts1 hgo h
theorem s_newLc2 {i : Nat} {y : Str} {py : Pos} {spos : Pos} (hc : X.calm = true) (hN : X.N.Nodup) (hy : X.N[i]? = some y) (hyl : X.env.scope.names.lookup y = some .local)
    (hsw : swapsWith (.ListComp elt [⟨tg, iter, ifs, 0⟩, ⟨tg1, iter1, ifs1, 0⟩] scope pos) (some (.Name y py)) spos.line X.env = pure true) (hi : PI X tg iter (tI K B it)) (ok : BlkOk X.N X.env.scope scope own)
    (hg : ∀ (s : Shared) (H : Hp) (C : Addr) (cl : List (Str × Addr)) (fp : List Addr), PG (X.blk s H scope (compEnvC scope cl C X.env) fp) tg (tG K B g ts)) (ht : ∀ (s : Shared) (H : Hp) (C : Addr) (cl : List (Str × Addr)) (fp : List Addr), PTs (X.blk s H scope (compEnvC scope cl C X.env) fp) ifs (tT K B p))
    (hi1 : ∀ (s : Shared) (H : Hp) (C : Addr) (cl : List (Str × Addr)) (fp : List Addr), PI (X.blk s H scope (compEnvC scope cl C X.env) fp) tg1 iter1 (tI K B it1))
    (hg1 : ∀ (s : Shared) (H : Hp) (C : Addr) (cl : List (Str × Addr)) (fp : List Addr), PG (X.blk s H scope (compEnvC scope cl C X.env) fp) tg1 (tG K B g1 ts1)) (ht1 : ∀ (s : Shared) (H : Hp) (C : Addr) (cl : List (Str × Addr)) (fp : List Addr), PTs (X.blk s H scope (compEnvC scope cl C X.env) fp) ifs1 (tT K B p1))
    (he : ∀ (s : Shared) (H : Hp) (C : Addr) (cl : List (Str × Addr)) (fp : List Addr), PE (X.blk s H scope (compEnvC scope cl C X.env) fp) elt (tD K B f)) (hts : ∀ t ∈ ts, t ∈ own.map (·.2)) (hts1 : ∀ t ∈ ts1, t ∈ ts1 ++ vs1) (hv1 : ∀ t ∈ ts1 ++ vs1, t ∈ own.map (·.2)) (hgo : GOk g ts)
    (hs : ∀ x, foldedSetIterable iter X.env x = pure x := by intro _; rfl) (hs1 : ∀ env x, foldedSetIterable iter1 env x = pure x := by intro _ _; rfl) :
    PS X (.Assign [.Name y py] (.ListComp elt [⟨tg, iter, ifs, 0⟩, ⟨tg1, iter1, ifs1, 0⟩] scope pos) spos) (tAsg (tN K B (eComp2 it g p it1 g1 p1 f (own.map (·.2)) (ts1 ++ vs1))) (gName i)) :=
  (ps_setLc2 hc hN hy hyl hsw hi ok hv1 hg ht hi1 hg1 ht1 he hs hs1).imp fun E σ H h => lc2_of (Q := fun x H1 => gName i x σ H1 E.nx) hts hts1 hgo h
end

/-! ### own lists that change -/
theorem Stt.own_upd {K : PySem.W.Frag} {B c : Bas} {S : Sto} {σ : St} {env : Env} {i : Nat} {a : Addr} {ds ds' : List D} {vs vs' : List V} (st : Stt K B c S σ env) (hi : env[i]? = some (some (.own ds))) (hv : σ[i]? = some (some (.ref a)))
    (hl : vs'.length ≤ sizeLine) (r : RpAll K c.F c.ι ds' vs') : Stt K B ⟨c.F, c.ι, upd c.H a (.lst vs')⟩ S σ (env.set i (some (.own ds'))) := by
  obtain ⟨v, hv', a', vs, ev, h1, _, h2, h3, h4, h5⟩ := st.env.at_ i _ hi
  rw [hv] at hv'
  cases hv'
  cases ev
  refine ⟨st.ok.upd h3 h4, ⟨by rw [List.length_set]; exact st.env.len, fun j x ej => ?_, fun j j2 es fs e2 e3 hjk => ?_⟩, st.st.upd_new h5⟩
  · by_cases hj : i = j
    · subst hj
      rw [List.getElem?_set_self ((List.getElem?_eq_some_iff.mp hi).1)] at ej
      cases ej
      exact ⟨.ref a, hv, a, vs', rfl, upd_same, hl, r, h3, h4, h5⟩
    · rw [List.getElem?_set_ne hj] at ej
      obtain ⟨u, g1, g2⟩ := st.env.at_ j x ej
      refine ⟨u, g1, ?_⟩
      cases x with
      | sh d => exact g2
      | own es =>
        obtain ⟨b, ws, e2, k1, k2, k3, k4, k5, k6⟩ := g2
        refine ⟨b, ws, e2, ?_, k2, k3, k4, k5, k6⟩
        have hba : b ≠ a := fun z => st.env.inj i j ds es hi ej hj (by rw [hv, g1, e2, z])
        show upd c.H a _ b = some _
        rw [upd_ne hba]
        exact k1
  · have own_of : ∀ (j : Nat) (es : List D), (env.set i (some (.own ds')))[j]? = some (some (.own es)) → ∃ es', env[j]? = some (some (.own es')) := fun j es ej => by
      by_cases hj : i = j
      · subst hj; exact ⟨ds, hi⟩
      · rw [List.getElem?_set_ne hj] at ej; exact ⟨es, ej⟩
    obtain ⟨es', g1⟩ := own_of j es e2
    obtain ⟨fs', g2⟩ := own_of j2 fs e3
    exact st.env.inj j j2 es' fs' g1 g2 hjk
/-- xs.pop(), xs a list of the name's own, the item dropped -/
def sPop (i : Nat) : SS := fun env S => match env[i]? with
  | some (some (.own ds)) => if ds = [] then .stuck else .ok (.nx (env.set i (some (.own ds.dropLast)))) S
  | _ => .stuck
theorem RpAll.dropLast {K : PySem.W.Frag} {F : Hp} {ι : List Addr} {ds : List D} {vs : List V} (h : RpAll K F ι ds vs) : RpAll K F ι ds.dropLast vs.dropLast := by
  rw [List.dropLast_eq_take, List.dropLast_eq_take, h.len]
  exact h.take _
/-- what can't be -/
def sStuck : SS := fun _ _ => .stuck
section
variable {X : Cx} {K : PySem.W.Frag} {B : Bas} {pos : Pos} {e : Expr} {es : List Expr} {f : EE} {st : Stmt} {sts : List Stmt}
theorem s_pop {i : Nat} (hK : X.K = K) (hp : PS X st (tDrop (tBM0 X.K "list" rPop (tVar i)))) : PS X st (tK K B (sPop i)) := hp.imp fun E σ H ⟨F, ι, S, env, st, o, S', e, q⟩ => by
  subst hK
  unfold sPop at e
  split at e
  · rename_i ds hi
    split at e
    · cases e
    · rename_i hz
      cases e
      obtain ⟨v, hv, a, vs, ev, h1, hl, h2, h3, h4, h5⟩ := st.env.at_ i _ hi
      subst ev
      have hne : 0 < vs.length := by
        rw [h2.len]
        exact List.length_pos_iff.mpr hz
      refine ⟨.ref a, hv, .inl ⟨rfl, _, SqL.of h1⟩, a, vs, vs[vs.length - 1], rfl, rfl, h1, List.getElem?_eq_getElem (by omega), ?_⟩
      exact q σ ⟨F, ι, upd H a (.lst vs.dropLast)⟩ (Stt.own_upd (vs := vs) st hi hv (by rw [List.length_dropLast]; omega) h2.dropLast) ⟨Same.refl _, List.prefix_rfl⟩
  · cases e
theorem s_stuck : PS X st (tK K B sStuck) := ps_never.imp fun E σ H ⟨F, ι, S, env, st, o, S', e, q⟩ => by cases e
theorem ss_stuck : PSs X sts (tK K B sStuck) := pss_never.imp fun E σ H ⟨F, ι, S, env, st, o, S', e, q⟩ => by cases e
/-! a module's constant -/
theorem d_glob {x : Str} {d : D} {v : V} {u : Value} (hg : Gl X x) (hm : X.mg x = some u) (r : RelV v u) (rd : ∀ F ι, Rp K F ι d v) (hd : (x == ("__debug__" : Str)) = false := by decide) : PE X (.Name x pos) (tD K B (eC d)) := PE.const (pe_glob hg hm r hd) rd
end

/-! ### isinstance -/
def tyN : D → Option String
  | .non => some "NoneType"
  | .bl _ => some "bool"
  | .int _ => some "int"
  | .str _ => some "str"
  | .lst _ => some "list"
  | .tup _ => some "tuple"
  | .mu _ => some "list"
  | .ty _ => none
/-- is a thing of type a one of b (the few that are asked) -/
def isTy (b : String) : D → Option Bool
  | .non => some (b == "NoneType")
  | .bl _ => some (b == "bool" || b == "int")
  | .int _ => some (b == "int")
  | .str _ => some (b == "str")
  | .lst _ => some (b == "list")
  | .tup _ => some (b == "tuple")
  | .mu _ => some (b == "list")
  | .ty _ => none
def knownTy : List String := ["int", "bool", "str", "list", "tuple"]
theorem isTy_kit {b t : String} {d : D} {r : Bool} (hb : b ∈ knownTy) (ht : tyN d = some t) (h : isTy b d = some r) : kitB t b = some r := by
  have hb' : b = "int" ∨ b = "bool" ∨ b = "str" ∨ b = "list" ∨ b = "tuple" := by simpa [knownTy] using hb
  cases d <;> first
    | (cases ht; done)
    | (cases ht; cases h; rcases hb' with rfl | rfl | rfl | rfl | rfl <;> decide +kernel)
theorem tyx_of {K : PySem.W.Frag} {B : Hp} {c : Bas} {S : Sto} {d : D} {v : V} {t : String} (ok : Sok K c S) (r : Rb K B c d v) (ht : tyN d = some t) : (∃ n, d = .mu n ∧ S[n]? = none) ∨ TyX K c.H v (.type t) := by
  have lstT : ∀ {a : Addr} {vs : List V}, SqL K c.H a vs → TyX K c.H (.ref a) (.type "list") := fun {a vs} h => by
    rcases h with (h | ⟨o, h⟩) | ⟨o, its, n, h1, h2, _⟩
    · exact .base (.lst h)
    · exact .base (.frz h)
    · exact .kList h1 h2
  cases d with
  | non => cases ht; cases r.non; exact .inr (.base .non)
  | bl b => cases ht; cases r.bl; exact .inr (.base (.bl b))
  | int b => cases ht; cases r.int; exact .inr (.base (.int b))
  | str b => cases ht; cases r.str; exact .inr (.base (.str b))
  | lst xs =>
    cases ht
    obtain ⟨a, vs, rfl, h1, _⟩ := r.lst ok
    exact .inr (lstT h1)
  | tup xs =>
    cases ht
    obtain ⟨a, vs, rfl, h1, _⟩ := r.tup ok
    rcases h1 with (h | ⟨o, h⟩) | ⟨o, its, n, h1, h2, _⟩
    · exact .inr (.base (.tup h))
    · exact .inr (.fTuple h)
    · exact .inr (.kTuple h1 h2)
  | mu n =>
    cases ht
    cases hs : S[n]? with
    | none => exact .inl ⟨n, rfl, hs⟩
    | some ds =>
      obtain ⟨a, vs, rfl, _, h1, _⟩ := r.mu ok hs
      exact .inr (.base (.lst h1))
  | ty n => cases ht
theorem Rb.muS {K : PySem.W.Frag} {B : Hp} {c : Bas} {S : Sto} {n : Nat} {v : V} (ok : Sok K c S) (r : Rb K B c (.mu n) v) : S[n]? ≠ none := by
  rcases r with ⟨a, h1, h2⟩ | ⟨es, e, _⟩
  · have := (List.getElem?_eq_some_iff.mp h2).1
    rw [ok.len] at this
    rw [List.getElem?_eq_getElem this]
    exact fun z => by cases z
  · cases e
def eIsi (b : String) (f : EE) : EE := fun env S => (f env S).bind fun d S => match isTy b d with
  | some r => .ok (.bl r) S
  | none => .stuck
def eIsi2 (b b2 : String) (f : EE) : EE := fun env S => (f env S).bind fun d S => match isTy b d, isTy b2 d with
  | some r, some r2 => .ok (.bl (r || r2)) S
  | _, _ => .stuck
theorem isTy_tyN {b : String} {d : D} {r : Bool} (h : isTy b d = some r) : ∃ t, tyN d = some t := by
  cases d with
  | ty n => cases h
  | non => exact ⟨_, rfl⟩
  | bl b => exact ⟨_, rfl⟩
  | int b => exact ⟨_, rfl⟩
  | str b => exact ⟨_, rfl⟩
  | lst b => exact ⟨_, rfl⟩
  | tup b => exact ⟨_, rfl⟩
  | mu b => exact ⟨_, rfl⟩
section
variable {X : Cx} {K : PySem.W.Frag} {B : Bas} {pos p p2 p3 p4 : Pos} {e : Expr} {f : EE} {b b2 : String} {x y z : Str} {kk : Nat}
theorem tyx_of' {K : PySem.W.Frag} {B : Hp} {c : Bas} {S : Sto} {d : D} {v : V} {t : String} (ok : Sok K c S) (r : Rb K B c d v) (ht : tyN d = some t) : TyX K c.H v (.type t) := by
  rcases tyx_of ok r ht with ⟨n, rfl, h⟩ | h
  · exact absurd h (Rb.muS ok r)
  · exact h
theorem d_isi (hK : X.K = K) (hg : Gl X x) (hm : X.mg x = none) (hv : bootBuiltins x = some (.builtin "isinstance")) (hg2 : Gl X y) (hm2 : X.mg y = none) (hv2 : bootBuiltins y = some (.type b)) (hb : b ∈ knownTy) (he : PE X e (tB K B f))
    (hn : x ≠ "__name__" := by decide) (hdb : (x == ("__debug__" : Str)) = false := by decide) (hn2 : y ≠ "__name__" := by decide) (hdb2 : (y == ("__debug__" : Str)) = false := by decide)
    (hs : starEach [e, .Name y p2] X.env = (false, eval e X.env) :: starEach [.Name y p2] X.env := by rfl) (hs2 : starEach [.Name y p2] X.env = (false, eval (.Name y p2) X.env) :: starEach [] X.env := by rfl) (hpl : (backTo pos (starEach [.Name y p2] X.env)).any (·.1) = false := by rfl) :
    PE X (.Call (.Name x p) [e, .Name y p2] [] pos) (tD K B (eIsi b f)) := by
  subst hK
  refine (pe_callB call_isi hg hm hv (pa_cons he (pa_cons (pe_bltn hg2 hm2 hv2 (v := .ty b) rfl hn2 hdb2) pa_nil (hs := hs2)) (hs := hs)) hn hdb hs hpl).imp fun σ H Q ⟨F, ι, S, env, st, o, S', e, q⟩ => ?_
  obtain ⟨d, S1, e1, e⟩ := Res.bind_ok e
  refine ⟨F, ι, S, env, st, d, S1, e1, fun v c1 s1 o1 r1 => ?_⟩
  split at e
  · rename_i r hr
    cases e
    obtain ⟨t, ht⟩ := isTy_tyN hr
    exact ⟨v, .ty b, .type t, .type b, r, rfl, .ty b, tyx_of' o1 r1 ht, kit_ty (isTy_kit hb ht hr), q _ c1 s1 o1 rfl⟩
  · cases e
theorem d_isi2 (hK : X.K = K) (hg : Gl X x) (hm : X.mg x = none) (hv : bootBuiltins x = some (.builtin "isinstance")) (hg2 : Gl X y) (hm2 : X.mg y = none) (hv2 : bootBuiltins y = some (.type b)) (hg3 : Gl X z) (hm3 : X.mg z = none) (hv3 : bootBuiltins z = some (.type b2)) (hb : b ∈ knownTy) (hb2 : b2 ∈ knownTy) (he : PE X e (tB K B f))
    (hn : x ≠ "__name__" := by decide) (hdb : (x == ("__debug__" : Str)) = false := by decide) (hn2 : y ≠ "__name__" := by decide) (hdb2 : (y == ("__debug__" : Str)) = false := by decide) (hn3 : z ≠ "__name__" := by decide) (hdb3 : (z == ("__debug__" : Str)) = false := by decide)
    (hs : starEach [e, .Tuple [.Name y p2, .Name z p3] kk p4] X.env = (false, eval e X.env) :: starEach [.Tuple [.Name y p2, .Name z p3] kk p4] X.env := by rfl) (hs2 : starEach [Expr.Tuple [.Name y p2, .Name z p3] kk p4] X.env = (false, eval (.Tuple [.Name y p2, .Name z p3] kk p4) X.env) :: starEach [] X.env := by rfl)
    (hs3 : starEach [Expr.Name y p2, .Name z p3] X.env = (false, eval (.Name y p2) X.env) :: starEach [.Name z p3] X.env := by rfl) (hs4 : starEach [Expr.Name z p3] X.env = (false, eval (.Name z p3) X.env) :: starEach [] X.env := by rfl) (hpl : (backTo pos (starEach [Expr.Tuple [.Name y p2, .Name z p3] kk p4] X.env)).any (·.1) = false := by rfl) :
    PE X (.Call (.Name x p) [e, .Tuple [.Name y p2, .Name z p3] kk p4] [] pos) (tD K B (eIsi2 b b2 f)) := by
  subst hK
  refine (pe_callB call_isiT hg hm hv (pa_cons he (pa_cons (pe_tup (pa_cons (pe_bltn hg2 hm2 hv2 (v := .ty b) rfl hn2 hdb2) (pa_cons (pe_bltn hg3 hm3 hv3 (v := .ty b2) rfl hn3 hdb3) pa_nil (hs := hs4)) (hs := hs3))) pa_nil (hs := hs2)) (hs := hs)) hn hdb hs hpl).imp fun σ H Q ⟨F, ι, S, env, st, o, S', e, q⟩ => ?_
  obtain ⟨d, S1, e1, e⟩ := Res.bind_ok e
  refine ⟨F, ι, S, env, st, d, S1, e1, fun v c1 s1 o1 r1 => ?_⟩
  split at e
  · rename_i r r2 hr hr2
    cases e
    obtain ⟨t, ht⟩ := isTy_tyN hr
    refine ⟨by show 2 ≤ sizeLine; decide, fun tp hp => ?_⟩
    obtain ⟨s2, o2, _⟩ := new_tup (ds := [.ty b, .ty b2]) (vs := [.ty b, .ty b2]) o1 hp (by show 2 ≤ sizeLine; decide) ⟨_, _, rfl, rfl, _, _, rfl, rfl, rfl⟩
    have r1' := r1.step s2
    refine ⟨v, tp, [.ty b, .ty b2], .type t, [.type b, .type b2], r || r2, rfl, upd_same, .cons (.ty b) (.cons (.ty b2) .nil), tyx_of' o2 r1' ht, ?_, q _ ⟨_, _, _⟩ (s1.trans s2) o2 rfl⟩
    refine kitAny_cons (kit_ty (isTy_kit hb ht hr)) (fun hf => ?_) (fun hf => by rw [hf]; rfl)
    refine kitAny_cons (kit_ty (isTy_kit hb2 ht hr2)) (fun hf2 => ?_) (fun hf2 => by rw [hf2, Bool.or_true])
    rw [hf, hf2]
    exact kitAny_nil
  · cases e
end

/-! ### min(xs, default=d), max(xs, default=d), xs a list of ints -/
def rMinDef (K : PySem.W.Frag) (g : Int → List Int → Int) : List V → List V → Hp → VK → Prop := fun xs zs H Q => ∃ (a : Addr) (ns : List Int) (z : V), xs = [V.ref a] ∧ zs = [z] ∧ SqL K H a (ns.map V.int) ∧
  Q (match ns with | [] => z | n :: ns => .int (g n ns)) H
theorem alike_ints0 (ns : List Int) : PySem.W.AlikeAll (ns.map PyData.int) := by
  cases ns with
  | nil => exact ⟨fun x hx => absurd hx (by simp), fun x hx => absurd hx (by simp)⟩
  | cons n ns => exact alike_ints n ns
theorem ints_cons {ns : List Int} {y : PyData} {ys : List PyData} (h : ns.map PyData.int = y :: ys) : ∃ n ms, ns = n :: ms ∧ y = .int n ∧ ys = ms.map .int := by
  cases ns with
  | nil => cases h
  | cons n ms => cases h; exact ⟨n, ms, rfl, rfl, rfl⟩
section
variable {X : Cx}
theorem crk_min (hc : X.calm = true) (hu : X.A.units + 64 < cLine) : CallRK X (.builtin "min") ["default"] (rMinDef X.K fun n ns => ns.foldl min n) := by
  intro pins s σ H xs zs us ws Q I r r2 h
  obtain ⟨a, ns, z, rfl, rfl, hs, q⟩ := h
  rw [Vals.ref1 r]
  obtain ⟨u, rfl, ru⟩ := r2.one
  obtain ⟨its, rv, hl, _⟩ := I.list hs
  refine PySem.W.min_list_default (I.ok.hd hc) hl.isList (xs := ns.map .int) (as := []) (readsAll_ints rv) (alike_ints0 ns) (by rw [depth_ints]; omega) (fun e h' tk hk => ?_) fun y ys i v h' tk bs e hv hr hk => ?_
  · have e' : ns = [] := List.map_eq_nil_iff.mp e
    subst e'
    exact ⟨z, H, I.kept hk, ru, q⟩
  · obtain ⟨n, ms, rfl, rfl, rfl⟩ := ints_cons e
    rw [PySem.W.minD_ints] at hr
    obtain ⟨t, rfl⟩ := of_reads_int hr
    exact ⟨.int _, H, I.kept hk, ⟨t, rfl⟩, q⟩
theorem crk_max (hc : X.calm = true) (hu : X.A.units + 64 < cLine) : CallRK X (.builtin "max") ["default"] (rMinDef X.K fun n ns => ns.foldl max n) := by
  intro pins s σ H xs zs us ws Q I r r2 h
  obtain ⟨a, ns, z, rfl, rfl, hs, q⟩ := h
  rw [Vals.ref1 r]
  obtain ⟨u, rfl, ru⟩ := r2.one
  obtain ⟨its, rv, hl, _⟩ := I.list hs
  refine PySem.W.max_list_default (I.ok.hd hc) hl.isList (xs := ns.map .int) (as := []) (readsAll_ints rv) (alike_ints0 ns) (by rw [depth_ints]; omega) (fun e h' tk hk => ?_) fun y ys i v h' tk bs e hv hr hk => ?_
  · have e' : ns = [] := List.map_eq_nil_iff.mp e
    subst e'
    exact ⟨z, H, I.kept hk, ru, q⟩
  · obtain ⟨n, ms, rfl, rfl, rfl⟩ := ints_cons e
    rw [PySem.W.maxD_ints] at hr
    obtain ⟨t, rfl⟩ := of_reads_int hr
    exact ⟨.int _, H, I.kept hk, ⟨t, rfl⟩, q⟩
variable {K : PySem.W.Frag} {B : Bas} {x : Str} {p pos kpos : Pos} {e e2 : Expr} {f f2 : EE} {id : String} {gg : Int → List Int → Int}
def eMinDef (gg : Int → List Int → Int) (f f2 : EE) : EE := fun env S => (f env S).bind fun d S => (f2 env S).bind fun z S => match d with
  | .lst xs => (match allInt xs with
    | some [] => .ok z S
    | some (n :: ns) => .ok (.int (gg n ns)) S
    | none => .stuck)
  | _ => .stuck
theorem d_minDef (hK : X.K = K) (hcr : CallRK X (.builtin id) ["default"] (rMinDef X.K gg)) (hg : Gl X x) (hm : X.mg x = none) (hv : bootBuiltins x = some (.builtin id)) (he : PE X e (tB K B f)) (he2 : PE X e2 (tD K B f2)) (hn : x ≠ "__name__" := by decide) (hdb : (x == ("__debug__" : Str)) = false := by decide)
    (hs : starEach [e] X.env = (false, eval e X.env) :: starEach [] X.env := by rfl)
    (hse : backTo pos (starEach [e] X.env) = (false, eval e X.env) :: backTo pos (starEach [] X.env) := by rfl) (hpl : (backTo pos (starEach [e] X.env)).any (·.1) = false := by rfl)
    (hall : (backToKw pos (keywordEach [⟨some "default", e2, kpos⟩] X.env)).all (·.1.isSome) = true := by rfl) (hnone : (backToKw pos (keywordEach [⟨some "default", e2, kpos⟩] X.env)).any (·.1.isNone) = false := by rfl) (hks : (backToKw pos (keywordEach [⟨some "default", e2, kpos⟩] X.env)).filterMap (·.1) = (["default"] : List Str) := by rfl) :
    PE X (.Call (.Name x p) [e] [⟨some "default", e2, kpos⟩] pos) (tD K B (eMinDef gg f f2)) := by
  subst hK
  refine (pe_callBK hcr hg hm hv (pa_cons he pa_nil (hs := hs)) (pk_cons he2 pk_nil) hn hdb hse hpl hall hnone hks).imp fun σ H Q ⟨F, ι, S, env, st, o, S', e, q⟩ => ?_
  obtain ⟨d, S1, e1, e⟩ := Res.bind_ok e
  obtain ⟨z, S2, e2, e⟩ := Res.bind_ok e
  refine ⟨F, ι, S, env, st, d, S1, e1, fun v c1 s1 o1 r1 => ?_⟩
  refine ⟨c1.F, c1.ι, S1, env, st.step s1 o1, z, S2, e2, fun v2 c2 s2 o2 r2 => ?_⟩
  split at e
  · rename_i xs
    obtain ⟨a, vs, ev, h1, hl, h2⟩ := (r1.step s2).lst o2
    split at e
    · rename_i hx
      cases e
      have hx' := allInt_map hx
      subst hx'
      have h2' := h2.ints
      subst h2'
      exact ⟨a, [], v2, by rw [ev], rfl, h1, q _ c2 (s1.trans s2) o2 r2⟩
    · rename_i n ns hx
      cases e
      have hx' := allInt_map hx
      subst hx'
      have h2' := h2.ints
      subst h2'
      exact ⟨a, n :: ns, v2, by rw [ev], rfl, h1, q _ c2 (s1.trans s2) o2 rfl⟩
    · cases e
  · cases e
end
end DL

/-! DL12: the rules, in the form in which they are printed. -/
namespace DL
open PySem PySem.Spec PyProof.Rows L2

/-! ### a new thing that changes -/
theorem new_mu {K : PySem.W.Frag} {c c' : Bas} {S : Sto} {ds : List D} {v : V} (s : Step c c') (ok : Sok K c' S) (n : NewAt K c c' ds v) :
    ∃ ι', Step c ⟨c'.F, ι', c'.H⟩ ∧ Sok K ⟨c'.F, ι', c'.H⟩ (S ++ [ds]) ∧ Rp K c'.F ι' (.mu S.length) v := by
  obtain ⟨a, vs, e, h1, h2, hl, h3, h4, h5⟩ := n
  have pre : c'.ι <+: c'.ι ++ [a] := List.prefix_append _ _
  have mem : ∀ b, b ∈ c'.ι ++ [a] → b ∈ c'.ι ∨ b = a := fun b hb => by simpa using hb
  refine ⟨c'.ι ++ [a], ⟨s.same, s.grow, s.fr, s.dom, s.pre.trans pre, fun b hb => ?_⟩, ⟨ok.f, ?_, by rw [List.length_append, List.length_append, ok.len]; rfl, fun b hb => ?_, fun i b es g1 g2 => ?_⟩, a, e, ?_⟩
  · rcases mem b hb with r | r
    · exact s.new b r
    · rw [r]; exact .inr h1
  · show (c'.ι ++ [a]).Nodup
    rw [List.nodup_append]
    exact ⟨ok.nd, by simp, fun x hx y hy e => h5 (by rw [List.mem_singleton.mp hy] at e; rw [← e]; exact hx)⟩
  · rcases mem b hb with r | r
    · exact ok.fi b r
    · rw [r]; exact h4
  · have g1' : (c'.ι ++ [a])[i]? = some b := g1
    by_cases hi : i < S.length
    · rw [List.getElem?_append_left (by rw [ok.len]; exact hi)] at g1'
      rw [List.getElem?_append_left hi] at g2
      obtain ⟨ws, k1, k2, k3⟩ := ok.s i b es g1' g2
      exact ⟨ws, k1, k2, RpAll.mono (Same.refl _) pre _ _ k3⟩
    · rw [List.getElem?_append_right (by rw [ok.len]; omega), ok.len] at g1'
      rw [List.getElem?_append_right (by omega)] at g2
      have hz : i - S.length = 0 := by
        have := (List.getElem?_eq_some_iff.mp g2).1
        simpa using this
      rw [hz] at g1' g2
      cases g1'
      cases g2
      exact ⟨vs, h2, hl, RpAll.mono (Same.refl _) pre _ _ h3⟩
  · show (c'.ι ++ [a])[S.length]? = some a
    rw [← ok.len, List.getElem?_append_right (Nat.le_refl _), Nat.sub_self]
    rfl
def eMu (l : EL) : EE := fun env S => (l env S).bind fun ds S => .ok (.mu S.length) (S ++ [ds])
section
variable {X : Cx} {B : Bas} {e e2 a b : Expr} {es : List Expr} {f g : EE} {l : EL} {p pos pos2 py spos apos : Pos} {x y : Str} {st : Stmt} {op : Operator}
theorem d_mu {K : PySem.W.Frag} (h : PE X e (tN K B l)) : PE X e (tD K B (eMu l)) := h.imp fun σ H Q ⟨F, ι, S, env, st, d, S', e, q⟩ => by
  obtain ⟨ds, S1, e1, e⟩ := Res.bind_ok e
  cases e
  refine ⟨F, ι, S, env, st, ds, _, e1, fun v c' s o n => ?_⟩
  obtain ⟨ι', s', o', r⟩ := new_mu s o n
  exact q v ⟨c'.F, ι', c'.H⟩ s' o' r
/-! names -/
theorem dv (i : Nat) (hN : X.N[i]? = some x := by rfl) (hv : Vis X.env.scope x := by first | exact Or.inl rfl | exact Or.inr (Or.inl rfl) | exact Or.inr (Or.inr rfl)) (hd : (x == ("__debug__" : Str)) = false := by decide)
    (hcd : (x == ("__classdict__" : Str)) = false := by decide) : PE X (.Name x pos) (tD X.K B (eV i)) := d_var (pv i hN hv hd hcd)
theorem bv (i : Nat) (hN : X.N[i]? = some x := by rfl) (hv : Vis X.env.scope x := by first | exact Or.inl rfl | exact Or.inr (Or.inl rfl) | exact Or.inr (Or.inr rfl)) (hd : (x == ("__debug__" : Str)) = false := by decide)
    (hcd : (x == ("__classdict__" : Str)) = false := by decide) : PE X (.Name x pos) (tB X.K B (eVb i)) := b_var (pv i hN hv hd hcd)
theorem gn (i : Nat) (hN : X.N.Nodup) (hi : X.N[i]? = some x := by rfl) (hx : Loc X.env.scope x := by first | exact Or.inl rfl | exact Or.inr rfl) (hf : X.fn x = true ∨ X.env.scope.names.lookup x = some .local := by first | exact .inl rfl | exact .inr rfl) :
    PG X (.Name x pos) (tG X.K B (gN i) [i]) := g_name (t := gName i) (pg_name hN hi hx hf)
/-! operators -/
theorem c_add (ha : PE X a (tB X.K B f)) (hb : PE X b (tB X.K B g)) : PE X (.BinOp a .Add b pos) (tD X.K B (eBin oAdd f g)) := d_bin op_add od_add ha hb
theorem c_sub (ha : PE X a (tB X.K B f)) (hb : PE X b (tB X.K B g)) : PE X (.BinOp a .Sub b pos) (tD X.K B (eBin oSub f g)) := d_bin op_sub od_sub ha hb
theorem c_mul (ha : PE X a (tB X.K B f)) (hb : PE X b (tB X.K B g)) : PE X (.BinOp a .Mult b pos) (tD X.K B (eBin oMul f g)) := d_bin op_mul od_mul ha hb
theorem c_mod (ha : PE X a (tB X.K B f)) (hb : PE X b (tB X.K B g)) : PE X (.BinOp a .Mod b pos) (tD X.K B (eBin oMod f g)) := d_bin op_mod od_mod ha hb
theorem c_fdiv (ha : PE X a (tB X.K B f)) (hb : PE X b (tB X.K B g)) : PE X (.BinOp a .FloorDiv b pos) (tD X.K B (eBin oFdiv f g)) := d_bin op_fdiv od_fdiv ha hb
theorem c_pow (ha : PE X a (tB X.K B f)) (hb : PE X b (tB X.K B g)) : PE X (.BinOp a .Pow b pos) (tD X.K B (eBin oPow f g)) := d_bin op_pow od_pow ha hb
/-- a comparison, as an operation: for values and tests alike -/
structure Cmp (X : Cx) (op : CmpOp) (o : Op2) : Prop where
  ex : ∃ r, OpR X (compareOp op) r ∧ OpD X.K r o
  ni : op ≠ .In
  nn : op ≠ .NotIn
theorem k_lt : Cmp X .Lt oLt := ⟨⟨_, op_lt, od_cmp⟩, by decide, by decide⟩
theorem k_le : Cmp X .LtE oLe := ⟨⟨_, op_le, od_cmp⟩, by decide, by decide⟩
theorem k_gt : Cmp X .Gt oGt := ⟨⟨_, op_gt, od_cmp⟩, by decide, by decide⟩
theorem k_ge : Cmp X .GtE oGe := ⟨⟨_, op_ge, od_cmp⟩, by decide, by decide⟩
theorem k_eq (hu : X.A.units + 64 < cLine) : Cmp X .Eq oEq := ⟨⟨_, op_eqP hu, od_eq⟩, by decide, by decide⟩
theorem k_ne (hu : X.A.units + 64 < cLine) : Cmp X .NotEq oNe := ⟨⟨_, op_neP hu, od_ne⟩, by decide, by decide⟩
theorem k_is : Cmp X .Is oIs := ⟨⟨_, op_isN, od_is⟩, by decide, by decide⟩
theorem k_isnot : Cmp X .IsNot oIsNot := ⟨⟨_, op_notN, od_isnot⟩, by decide, by decide⟩
theorem c_cmp {op : CmpOp} {o : Op2} (k : Cmp X op o) (ha : PE X a (tB X.K B f)) (hb : PE X b (tB X.K B g)) : PE X (.Compare a [op] [b] pos) (tD X.K B (eBin o f g)) := by
  obtain ⟨⟨r, h1, h2⟩, h3, h4⟩ := k
  exact d_cmp h1 h2 ha hb (nomark b h3 h4)
theorem q_cmp {op : CmpOp} {o : Op2} (k : Cmp X op o) (ha : PE X a (tB X.K B f)) (hb : PE X b (tB X.K B g)) : PT X (.Compare a [op] [b] pos) (tT X.K B (eTst (eBin o f g))) := by
  obtain ⟨⟨r, h1, h2⟩, h3, h4⟩ := k
  exact t_cmp h1 h2 ha hb (nomark b h3 h4)
theorem c_chain {op op' : CmpOp} {o o' : Op2} {c : Expr} {h : EE} (k : Cmp X op o) (k' : Cmp X op' o') (ha : PE X a (tB X.K B f)) (hb : PE X b (tB X.K B g)) (hc : PE X c (tB X.K B h)) (hm : lastMarks [op, op'] [b, c] = false := by with_unfolding_all rfl) :
    PE X (.Compare a [op, op'] [b, c] pos) (tD X.K B (eChain o o' f g h)) := by
  obtain ⟨⟨r, h1, h2⟩, _, _⟩ := k
  obtain ⟨⟨r', h1', h2'⟩, _, _⟩ := k'
  exact d_chain h1 h1' h2 h2' ha hb hc hm
theorem q_chain {op op' : CmpOp} {o o' : Op2} {c : Expr} {h : EE} (k : Cmp X op o) (k' : Cmp X op' o') (ha : PE X a (tB X.K B f)) (hb : PE X b (tB X.K B g)) (hc : PE X c (tB X.K B h)) (hm : lastMarks [op, op'] [b, c] = false := by with_unfolding_all rfl) :
    PT X (.Compare a [op, op'] [b, c] pos) (tT X.K B (eTst (eChain o o' f g h))) := by
  obtain ⟨⟨r, h1, h2⟩, _, _⟩ := k
  obtain ⟨⟨r', h1', h2'⟩, _, _⟩ := k'
  exact t_chain h1 h1' h2 h2' ha hb hc hm
theorem c_ix (ha : PE X a (tB X.K B f)) (hb : PE X b (tB X.K B g)) (hs : PlainIx b := by exact fun _ _ => rfl) : PE X (.Subscript a b pos) (tD X.K B (eBin oIx f g)) := d_ix ha hb hs rfl
theorem q_tru (h : PE X e (tB X.K B f)) (he : ∀ whole, isTrue e X.env whole = (do let v ← whole; standAt e.pos; holding [v] (truthy v)) := by intro _; rfl) : PT X e (tT X.K B (eTru f)) := t_tru h rfl he
/-! built-ins -/
theorem c_len (hm : X.mg "len" = none) (ha : PA X (e :: es) (tAB X.K B l)) (hg : Gl X "len" := by rfl) (he : starEach (e :: es) X.env = (false, eval e X.env) :: starEach es X.env := by rfl) (hpl : (backTo pos (starEach es X.env)).any (·.1) = false := by rfl) :
    PE X (.Call (.Name "len" p) (e :: es) [] pos) (tD X.K B (eBlt bLen l)) := d_callB call_len_seq cd_len hg hm PySem.boot_len ha (by decide) (by decide) he hpl
theorem c_int (hm : X.mg "int" = none) (ha : PA X (e :: es) (tAB X.K B l)) (hg : Gl X "int" := by rfl) (he : starEach (e :: es) X.env = (false, eval e X.env) :: starEach es X.env := by rfl) (hpl : (backTo pos (starEach es X.env)).any (·.1) = false := by rfl) :
    PE X (.Call (.Name "int" p) (e :: es) [] pos) (tD X.K B (eBlt bInt l)) := d_callTy call_int1 cd_int hg hm PyProof.Rows.boot_int ha (by decide) (by decide) he hpl
theorem c_abs (hm : X.mg "abs" = none) (ha : PA X (e :: es) (tAB X.K B l)) (hg : Gl X "abs" := by rfl) (he : starEach (e :: es) X.env = (false, eval e X.env) :: starEach es X.env := by rfl) (hpl : (backTo pos (starEach es X.env)).any (·.1) = false := by rfl) :
    PE X (.Call (.Name "abs" p) (e :: es) [] pos) (tD X.K B (eBlt bAbs l)) := d_callB call_abs cd_abs hg hm (by decide +kernel) ha (by decide) (by decide) he hpl
theorem c_max2 (hc : X.calm = true) (hm : X.mg "max" = none) (ha : PA X (e :: es) (tAB X.K B l)) (hg : Gl X "max" := by rfl) (he : starEach (e :: es) X.env = (false, eval e X.env) :: starEach es X.env := by rfl) (hpl : (backTo pos (starEach es X.env)).any (·.1) = false := by rfl) :
    PE X (.Call (.Name "max" p) (e :: es) [] pos) (tD X.K B (eBlt bMax2 l)) := d_callB (call_max2 hc) cd_max2 hg hm (by decide +kernel) ha (by decide) (by decide) he hpl
theorem c_min2 (hc : X.calm = true) (hm : X.mg "min" = none) (ha : PA X (e :: es) (tAB X.K B l)) (hg : Gl X "min" := by rfl) (he : starEach (e :: es) X.env = (false, eval e X.env) :: starEach es X.env := by rfl) (hpl : (backTo pos (starEach es X.env)).any (·.1) = false := by rfl) :
    PE X (.Call (.Name "min" p) (e :: es) [] pos) (tD X.K B (eBlt bMin2 l)) := d_callB (call_min2 hc) cd_min2 hg hm (by decide +kernel) ha (by decide) (by decide) he hpl
theorem c_max1 (hc : X.calm = true) (hu : X.A.units + 64 < cLine) (hm : X.mg "max" = none) (ha : PA X (e :: es) (tAB X.K B l)) (hg : Gl X "max" := by rfl) (he : starEach (e :: es) X.env = (false, eval e X.env) :: starEach es X.env := by rfl) (hpl : (backTo pos (starEach es X.env)).any (·.1) = false := by rfl) :
    PE X (.Call (.Name "max" p) (e :: es) [] pos) (tD X.K B (eBlt bMax l)) := d_callB (cr_maxI hc hu) cd_max hg hm (by decide +kernel) ha (by decide) (by decide) he hpl
theorem c_min1 (hc : X.calm = true) (hu : X.A.units + 64 < cLine) (hm : X.mg "min" = none) (ha : PA X (e :: es) (tAB X.K B l)) (hg : Gl X "min" := by rfl) (he : starEach (e :: es) X.env = (false, eval e X.env) :: starEach es X.env := by rfl) (hpl : (backTo pos (starEach es X.env)).any (·.1) = false := by rfl) :
    PE X (.Call (.Name "min" p) (e :: es) [] pos) (tD X.K B (eBlt bMin l)) := d_callB (cr_minI hc hu) cd_min hg hm (by decide +kernel) ha (by decide) (by decide) he hpl
theorem c_tuple (hm : X.mg "tuple" = none) (ha : PA X (e :: es) (tAB X.K B l)) (hg : Gl X "tuple" := by rfl) (he : starEach (e :: es) X.env = (false, eval e X.env) :: starEach es X.env := by rfl) (hpl : (backTo pos (starEach es X.env)).any (·.1) = false := by rfl) :
    PE X (.Call (.Name "tuple" p) (e :: es) [] pos) (tD X.K B (eBlt bTuple l)) := d_callTy call_tuple_of cd_tuple hg hm PyProof.Rows.boot_tuple ha (by decide) (by decide) he hpl
theorem c_any (hc : X.calm = true) (hm : X.mg "any" = none) (ha : PA X (e :: es) (tAB X.K B l)) (hg : Gl X "any" := by rfl) (he : starEach (e :: es) X.env = (false, eval e X.env) :: starEach es X.env := by rfl) (hpl : (backTo pos (starEach es X.env)).any (·.1) = false := by rfl) :
    PE X (.Call (.Name "any" p) (e :: es) [] pos) (tD X.K B (eBlt bAny l)) := d_callB (cr_any hc) cd_any hg hm PyProof.Rows.boot_any ha (by decide) (by decide) he hpl
theorem c_all (hc : X.calm = true) (hm : X.mg "all" = none) (ha : PA X (e :: es) (tAB X.K B l)) (hg : Gl X "all" := by rfl) (he : starEach (e :: es) X.env = (false, eval e X.env) :: starEach es X.env := by rfl) (hpl : (backTo pos (starEach es X.env)).any (·.1) = false := by rfl) :
    PE X (.Call (.Name "all" p) (e :: es) [] pos) (tD X.K B (eBlt bAll l)) := d_callB (cr_all hc) cd_all hg hm PyProof.Rows.boot_all ha (by decide) (by decide) he hpl
theorem c_list (hm : X.mg "list" = none) (ha : PA X (e :: es) (tAB X.K B l)) (hg : Gl X "list" := by rfl) (he : starEach (e :: es) X.env = (false, eval e X.env) :: starEach es X.env := by rfl) (hpl : (backTo pos (starEach es X.env)).any (·.1) = false := by rfl) :
    PE X (.Call (.Name "list" p) (e :: es) [] pos) (tN X.K B (eBltN bList l)) := n_callTy call_list_of cn_list hg hm PyProof.Rows.boot_list ha (by decide) (by decide) he hpl
theorem c_sorted (hu : X.A.units + 64 < cLine) (hm : X.mg "sorted" = none) (ha : PA X (e :: es) (tAB X.K B l)) (hg : Gl X "sorted" := by rfl) (he : starEach (e :: es) X.env = (false, eval e X.env) :: starEach es X.env := by rfl) (hpl : (backTo pos (starEach es X.env)).any (·.1) = false := by rfl) :
    PE X (.Call (.Name "sorted" p) (e :: es) [] pos) (tN X.K B (eBltN oSorted l)) := n_callB (cr_sortD hu) cn_sorted hg hm PyProof.Rows.boot_sorted ha (by decide) (by decide) he hpl
end
section
variable {X : Cx} {B : Bas} {e e2 a b : Expr} {es : List Expr} {f o k : EE} {l : EL} {p pos pos2 py spos apos : Pos} {x y : Str} {st : Stmt}
/-- a plain name, as what a method is asked of -/
theorem dvv (i : Nat) (hN : X.N[i]? = some x := by rfl) (hv : Vis X.env.scope x := by first | exact Or.inl rfl | exact Or.inr (Or.inl rfl) | exact Or.inr (Or.inr rfl)) (hd : (x == ("__debug__" : Str)) = false := by decide)
    (hcd : (x == ("__classdict__" : Str)) = false := by decide) : PE X (.Name x pos) (tVar i) := pv i hN hv hd hcd
theorem d_gint {i : Int} (h : ∃ t, X.mg x = some (.int i t)) (hg : Gl X x := by rfl) (hd : (x == ("__debug__" : Str)) = false := by decide) : PE X (.Name x pos) (tD X.K B (eC (.int i))) := by
  obtain ⟨t, h⟩ := h
  exact d_glob (v := .int i) hg h ⟨t, rfl⟩ (fun _ _ => rfl) hd
theorem s_setN {K : PySem.W.Frag} {i : Nat} (h : PS X st (tAsg (tN K B l) (gName i))) : PS X st (tK K B (sSet i (eLst l))) := h.imp fun E σ H ⟨F, ι, S, env, st, o, S', e, q⟩ => by
  obtain ⟨d, S1, e1, e⟩ := Res.bind_ok e
  cases e
  obtain ⟨ds, S2, e2, e⟩ := Res.bind_ok e1
  cases e
  refine ⟨F, ι, S, env, st, ds, _, e2, fun v c1 s1 o1 n1 => ?_⟩
  obtain ⟨F', s2, o2, r2⟩ := frz_new s1 o1 n1
  have st1 := st.step s2 o2
  exact q _ ⟨F', c1.ι, c1.H⟩ ⟨st1.ok, st1.env.set_sh i r2, st1.st⟩ s2.adv
theorem s_appA {i : Nat} {opos cpos : Pos} (hx : PE X a (tVar i)) (h : PE X e (tD X.K B f)) (hs : starEach [e] X.env = (false, eval e X.env) :: starEach [] X.env := by rfl)
    (hbase : attributeBase a "append" X.env (eval a X.env) = eval a X.env := by rfl)
    (hfew : ((backTo cpos (starEach [e] X.env)).all (fun x => !x.1) && (backToKw cpos (keywordEach [] X.env)).all (fun x => x.1.isSome)
      && decide ([e].length + ([] : List Keyword).length + (if ([] : List Keyword).isEmpty then 0 else 1) < 30)) = true := by rfl)
    (hline : (opos.endLine == cpos.line) = true := by rfl) (hplain : (backTo cpos (starEach [] X.env)).any (·.1) = false := by rfl)
    (hsw : swapsWith (.Call (.Attribute a "append" opos) [e] [] cpos) none pos.line X.env = pure false := by rfl) :
    PS X (.Expr (.Call (.Attribute a "append" opos) [e] [] cpos) pos) (tK X.K B (sApp i f)) :=
  s_app (apos := pos) rfl hx h hs (ps_expr (pe_bm PySem.F.plainAttrs_list PySem.F.slot_list_append PySem.F.type_list_append mt_append hx (pa_cons h pa_nil (hs := hs)) hbase hfew hline hs hplain) hsw)
theorem s_popA {i : Nat} {opos cpos : Pos} (hx : PE X a (tVar i)) (hbase : attributeBase a "pop" X.env (eval a X.env) = eval a X.env := by rfl) (hline : (opos.endLine == cpos.line) = true := by rfl)
    (hsw : swapsWith (.Call (.Attribute a "pop" opos) [] [] cpos) none pos.line X.env = pure false := by rfl) :
    PS X (.Expr (.Call (.Attribute a "pop" opos) [] [] cpos) pos) (tK X.K B (sPop i)) :=
  s_pop rfl (ps_expr (pe_bm0 PySem.F.plainAttrs_list PySem.F.slot_list_pop PySem.F.type_list_pop mt_pop hx hbase hline) hsw)
theorem s_storeA {tpos : Pos} (hv : PE X e (tD X.K B f)) (ho : PE X a (tD X.K B o)) (hi : PE X b (tD X.K B k))
    (ha : ∀ v, assign (.Subscript a b tpos) X.env v = (do
      let ov ← holding [v] (eval a X.env)
      let iv ← holding [v, ov] (eval b X.env)
      standAt tpos
      holding [v, ov, iv] (setItem ov iv v)
      release [v, ov, iv] []) := by intro _; rfl)
    (hs : swapsWithSole [.Subscript a b tpos] e pos.line X.env = pure false := by rfl) (hw : swappedStores [.Subscript a b tpos] e X.env = pure none := by rfl)
    (h1 : (assignEach [.Subscript a b tpos] X.env).map (·.2) = [assign (.Subscript a b tpos) X.env] := by rfl) :
    PS X (.Assign [.Subscript a b tpos] e pos) (tK X.K B (sStore f o k)) := s_store (tpos := tpos) hv ho hi (ps_asg hv (pg_sub ho hi set_list ha) hs hw h1)
end
end DL

/-! DLE: a law's end. -/
namespace DL
open PySem PySem.Spec PyProof.Rows L2
theorem rp_ints {K : PySem.W.Frag} {F : Hp} {ι : List Addr} : ∀ ns : List Int, RpAll K F ι (ns.map D.int) (ns.map V.int)
  | [] => rfl
  | n :: r => ⟨.int n, r.map V.int, rfl, rfl, rp_ints r⟩
theorem end_sp {K : PySem.W.Frag} {φ : List D → Sto → Res D} (math : ∀ ns : List Int, ns.length ≤ 63 → ∃ S', φ [.lst (ns.map .int)] [] = .ok (.bl true) S') {H : Hp} {a : Addr} {ns : List Int} (hl : ns.length ≤ 63) (hS : SqL K H a (ns.map V.int)) {E : XK} :
    spD K 1 φ [.ref a] H (fun v _ => v = .bl true) E := by
  obtain ⟨S', e⟩ := math ns hl
  have hz : (ns.map V.int).length ≤ sizeLine := by
    rw [List.length_map]
    exact Nat.le_trans hl (by decide)
  have fin : ∀ F : Hp, Same F H → SqL K F a (ns.map V.int) → spD K 1 φ [.ref a] H (fun v _ => v = .bl true) E := fun F hF h =>
    ⟨rfl, F, [], [], [.lst (ns.map .int)], ⟨hF, List.nodup_nil, rfl, fun a ha => (by cases ha), fun n a ds h1 => (by simp at h1)⟩, ⟨.ref a, [], rfl, ⟨a, ns.map V.int, rfl, h, hz, rp_ints ns⟩, rfl⟩, .bl true, S', e, fun v c' _ _ r => r⟩
  rcases hS with h | h
  · refine fin (fun b => if b = a then H a else none) (fun b o q => ?_) (.inl ?_)
    · have q' : (if b = a then H a else none) = some o := q
      split at q'
      · rename_i hb
        rw [hb]
        exact q'
      · cases q'
    · rcases h with h | ⟨o, h⟩
      · exact .inl (by show (if a = a then H a else none) = _; rw [if_pos rfl]; exact h)
      · exact .inr ⟨o, by show (if a = a then H a else none) = _; rw [if_pos rfl]; exact h⟩
  · exact fin (fun _ => none) (fun b o q => by cases q) (.inr h)
end DL

/-! DL13: evaluation of the shallow terms. -/
namespace DL
open PySem PySem.Spec PyProof.Rows L2
theorem Res.bind_eq {α β : Type} (a : α) (S : Sto) (f : α → Sto → Res β) : Res.bind (.ok a S) f = f a S := rfl
/-- it ends well, and then .. -/
def Ev {α : Type} (r : Res α) (Q : α → Sto → Prop) : Prop := ∃ a S', r = .ok a S' ∧ Q a S'
theorem Ev.bind {α β : Type} {r : Res α} {f : α → Sto → Res β} {Q : β → Sto → Prop} : Ev (r.bind f) Q = Ev r fun a S => Ev (f a S) Q := by
  cases r with
  | ok a S => exact propext ⟨fun h => ⟨a, S, rfl, h⟩, fun ⟨_, _, e, h⟩ => (by cases e; exact h)⟩
  | stuck => exact propext ⟨fun ⟨_, _, e, _⟩ => (by cases e), fun ⟨_, _, e, _⟩ => (by cases e)⟩
theorem Ev.imp {α : Type} {r : Res α} {Q Q' : α → Sto → Prop} (h : Ev r Q) (i : ∀ a S, Q a S → Q' a S) : Ev r Q' := by
  obtain ⟨a, S, e, q⟩ := h
  exact ⟨a, S, e, i a S q⟩
theorem Ev.of {α : Type} {r : Res α} {a : α} {S : Sto} {Q : α → Sto → Prop} (e : r = .ok a S) : Ev r Q = Q a S := by
  subst e
  exact propext ⟨fun ⟨_, _, e, h⟩ => (by cases e; exact h), fun h => ⟨_, _, rfl, h⟩⟩
theorem ev_no {α : Type} {Q : α → Sto → Prop} : Ev (.stuck : Res α) Q = False := propext ⟨fun ⟨_, _, e, _⟩ => (by cases e), False.elim⟩
theorem Ev.eq {α : Type} {r : Res α} {a : α} {S : Sto} (h : Ev r fun b S' => b = a ∧ S' = S) : r = .ok a S := by
  obtain ⟨b, S', e, rfl, rfl⟩ := h
  exact e
/-! the names' places, in such a form that simp meets them from without -/
def withSet (env : Env) (i : Nat) (x : Option Slot) (k : Env → Prop) : Prop := k (env.set i x)
def withOwn (env : Env) (i : Nat) (k : List D → Prop) : Prop := match env[i]? with | some (some (.own ds)) => k ds | _ => False
def withFrz (env : Env) (i : Nat) (k : Env → Prop) : Prop := match env[i]? with | some (some (.own ds)) => k (env.set i (some (.sh (.lst ds)))) | _ => k env
def withWipe (env : Env) (vs : List Nat) (k : Env → Prop) : Prop := k (wipeE env vs)
def withG (g : GE) (d : D) (env : Env) (k : Env → Prop) : Prop := match g d env with | some e => k e | none => False
@[simp ↓] theorem ws_0 {a x : Option Slot} {r : Env} {k : Env → Prop} : withSet (a :: r) 0 x k = k (x :: r) := rfl
@[simp ↓] theorem ws_s {a x : Option Slot} {r : Env} {i : Nat} {k : Env → Prop} : withSet (a :: r) (i + 1) x k = withSet r i x fun r => k (a :: r) := rfl
@[simp ↓] theorem wo_0 {ds : List D} {r : Env} {k : List D → Prop} : withOwn (some (.own ds) :: r) 0 k = k ds := rfl
@[simp ↓] theorem wo_s {a : Option Slot} {r : Env} {i : Nat} {k : List D → Prop} : withOwn (a :: r) (i + 1) k = withOwn r i k := rfl
@[simp ↓] theorem wf_0 {ds : List D} {r : Env} {k : Env → Prop} : withFrz (some (.own ds) :: r) 0 k = k (some (.sh (.lst ds)) :: r) := rfl
@[simp ↓] theorem wf_1 {d : D} {r : Env} {k : Env → Prop} : withFrz (some (.sh d) :: r) 0 k = k (some (.sh d) :: r) := rfl
@[simp ↓] theorem wf_2 {r : Env} {k : Env → Prop} : withFrz (none :: r) 0 k = k (none :: r) := rfl
@[simp ↓] theorem wf_s {a : Option Slot} {r : Env} {i : Nat} {k : Env → Prop} : withFrz (a :: r) (i + 1) k = withFrz r i fun r => k (a :: r) := by
  show (match r[i]? with | some (some (.own ds)) => k ((a :: r).set (i + 1) (some (.sh (.lst ds)))) | _ => k (a :: r)) = match r[i]? with | some (some (.own ds)) => k (a :: r.set i (some (.sh (.lst ds)))) | _ => k (a :: r)
  rfl
@[simp ↓] theorem ww_0 {env : Env} {k : Env → Prop} : withWipe env [] k = k env := rfl
@[simp ↓] theorem ww_s {env : Env} {i : Nat} {vs : List Nat} {k : Env → Prop} : withWipe env (i :: vs) k = withWipe env vs fun e => withSet e i none k := rfl
@[simp ↓] theorem wg_n {i : Nat} {d : D} {env : Env} {k : Env → Prop} : withG (gN i) d env k = withSet env i (some (.sh d)) k := rfl
@[simp ↓] theorem wg_2 {g h : GE} {a b : D} {env : Env} {k : Env → Prop} : withG (gTp 2 (gsCons g (gsCons h gsNil))) (.tup [a, b]) env k = withG g a env fun e => withG h b e k := by
  show (match (g a env).bind (fun e => (h b e).bind fun e => some e) with | some e => k e | none => False) = match g a env with | some e => (match h b e with | some e => k e | none => False) | none => False
  cases g a env with
  | none => rfl
  | some e =>
    show (match (h b e).bind fun e => some e with | some e => k e | none => False) = match h b e with | some e => k e | none => False
    generalize h b e = z
    cases z <;> rfl
@[simp ↓] theorem wg_2l {g h : GE} {a b : D} {env : Env} {k : Env → Prop} : withG (gTp 2 (gsCons g (gsCons h gsNil))) (.lst [a, b]) env k = withG g a env fun e => withG h b e k := wg_2
theorem withG.out {g : GE} {d : D} {env : Env} {k : Env → Prop} (h : withG g d env k) : ∃ e, g d env = some e ∧ k e := by
  unfold withG at h
  split at h
  · rename_i e he; exact ⟨e, he, h⟩
  · exact h.elim
section
variable {α β : Type} {env : Env} {S : Sto} {f g h : EE} {l l' : EL} {p q : ET} {s t : SS} {i j : Nat} {a b d : D} {ds es : List D} {op : OpA} {opn : OpN} {o o' : Op2} {k m : Int}
variable {Q : D → Sto → Prop} {QL : List D → Sto → Prop} {QT : Bool → Sto → Prop} {QS : Out → Sto → Prop}
@[simp ↓] theorem ev_ok {α : Type} {a : α} {S : Sto} {Q : α → Sto → Prop} : Ev (.ok a S) Q = Q a S := Ev.of rfl
@[simp ↓] theorem ev_ite {α : Type} {c : Prop} [Decidable c] {r r' : Res α} {Q : α → Sto → Prop} : Ev (if c then r else r') Q = if c then Ev r Q else Ev r' Q := by split <;> rfl
@[simp ↓] theorem ev_eC : Ev (eC d env S) Q = Q d S := Ev.of rfl
@[simp ↓] theorem ev_eV0 {r : Env} : Ev (eV 0 (some (.sh d) :: r) S) Q = Q d S := Ev.of rfl
@[simp ↓] theorem ev_eVs {x : Option Slot} {r : Env} : Ev (eV (i + 1) (x :: r) S) Q = Ev (eV i r S) Q := rfl
@[simp ↓] theorem ev_eVb0 {r : Env} : Ev (eVb 0 (some (.sh d) :: r) S) Q = Q d S := Ev.of rfl
@[simp ↓] theorem ev_eVbo {r : Env} : Ev (eVb 0 (some (.own ds) :: r) S) Q = Q (.lst ds) S := Ev.of rfl
@[simp ↓] theorem ev_eVbs {x : Option Slot} {r : Env} : Ev (eVb (i + 1) (x :: r) S) Q = Ev (eVb i r S) Q := rfl
@[simp ↓] theorem ev_eBin : Ev (eBin o f g env S) Q = Ev (f env S) fun x S => Ev (g env S) fun y S => Ev (o x y S) Q := by
  show Ev (Res.bind _ _) Q = _
  simp only [Ev.bind]
@[simp ↓] theorem ev_oAdd : Ev (oAdd (.int k) (.int m) S) Q = Q (.int (k + m)) S := Ev.of rfl
@[simp ↓] theorem ev_oSub : Ev (oSub (.int k) (.int m) S) Q = Q (.int (k - m)) S := Ev.of rfl
theorem ev_oMul (h : (-(2 ^ 64) < k ∧ k < 2 ^ 64) ∨ (-(2 ^ 64) < m ∧ m < 2 ^ 64)) : Ev (oMul (.int k) (.int m) S) Q = Q (.int (k * m)) S := Ev.of (by
  show (match (if _ then some (D.int (k * m)) else none) with | some d => Res.ok d S | none => .stuck) = _
  rw [if_pos h])
theorem ev_oMod (h : 0 < m) : Ev (oMod (.int k) (.int m) S) Q = Q (.int (k % m)) S := Ev.of (by
  show (match (if _ then some (D.int (k % m)) else none) with | some d => Res.ok d S | none => .stuck) = _
  rw [if_pos h])
theorem ev_oFdiv (h : 0 < m ∧ m < 1073741824) : Ev (oFdiv (.int k) (.int m) S) Q = Q (.int (k / m)) S := Ev.of (by
  show (match (if _ then some (D.int (k / m)) else none) with | some d => Res.ok d S | none => .stuck) = _
  rw [if_pos h])
theorem ev_oPow (h : 0 ≤ m ∧ m ≤ 1000000 ∧ k.natAbs < 2 ^ 64) : Ev (oPow (.int k) (.int m) S) Q = Q (.int (k ^ m.toNat)) S := Ev.of (by
  show (match (if _ then some (D.int (k ^ m.toNat)) else none) with | some d => Res.ok d S | none => .stuck) = _
  rw [if_pos h])
@[simp ↓] theorem ev_pow1018 : Ev (oPow (.int 10) (.int 18) S) Q = Q (.int 1000000000000000000) S := ev_oPow (by decide)
@[simp ↓] theorem ev_oLt : Ev (oLt (.int k) (.int m) S) Q = Q (.bl (decide (k < m))) S := Ev.of rfl
@[simp ↓] theorem ev_oLe : Ev (oLe (.int k) (.int m) S) Q = Q (.bl (decide (k ≤ m))) S := Ev.of rfl
@[simp ↓] theorem ev_oGt : Ev (oGt (.int k) (.int m) S) Q = Q (.bl (decide (m < k))) S := Ev.of rfl
@[simp ↓] theorem ev_oGe : Ev (oGe (.int k) (.int m) S) Q = Q (.bl (decide (m ≤ k))) S := Ev.of rfl
theorem ev_oEq (h : okD a = true) (h' : okD b = true) : Ev (oEq a b S) Q = Q (.bl (eqD a b)) S := Ev.of (by unfold oEq; rw [if_pos ⟨h, h'⟩])
theorem ev_oNe (h : okD a = true) (h' : okD b = true) : Ev (oNe a b S) Q = Q (.bl (!eqD a b)) S := Ev.of (by unfold oNe; rw [if_pos ⟨h, h'⟩])
@[simp ↓] theorem ev_oIs : Ev (oIs a .non S) Q = Q (.bl (isNon a)) S := Ev.of rfl
@[simp ↓] theorem ev_oIsNot : Ev (oIsNot a .non S) Q = Q (.bl (!isNon a)) S := Ev.of rfl
@[simp] theorem ev_isNon : isNon .non = true := rfl
@[simp] theorem ev_isNonI : isNon (.int k) = false := rfl
theorem ev_ixL {d : D} (h : atI ds k = some d) : Ev (oIx (.lst ds) (.int k) S) Q = Q d S := Ev.of (by
  show (match atI ds k with | some d => Res.ok d S | none => .stuck) = _
  rw [h])
theorem ev_ixT {d : D} (h : atI ds k = some d) : Ev (oIx (.tup ds) (.int k) S) Q = Q d S := Ev.of (by
  show (match atI ds k with | some d => Res.ok d S | none => .stuck) = _
  rw [h])
@[simp ↓] theorem mu3_0 {c : D} : Ev (oIx (.mu 0) (.int 0) [[a, b, c]]) Q = Q a [[a, b, c]] := Ev.of rfl
@[simp ↓] theorem mu3_1 {c : D} : Ev (oIx (.mu 0) (.int 1) [[a, b, c]]) Q = Q b [[a, b, c]] := Ev.of rfl
@[simp ↓] theorem mu3_2 {c : D} : Ev (oIx (.mu 0) (.int 2) [[a, b, c]]) Q = Q c [[a, b, c]] := Ev.of rfl
@[simp ↓] theorem ev_pair0 : Ev (oIx (.tup [a, b]) (.int 0) S) Q = Q a S := Ev.of rfl
@[simp ↓] theorem ev_pair1 : Ev (oIx (.tup [a, b]) (.int 1) S) Q = Q b S := Ev.of rfl
@[simp ↓] theorem ev_eNegI : Ev (eNeg (eC (.int k)) env S) Q = Q (.int (-k)) S := Ev.of rfl
@[simp ↓] theorem ev_eTst : Ev (eTst f env S) QT = Ev (f env S) fun x S => match x with | .bl b => QT b S | _ => False := by
  show Ev (Res.bind _ _) QT = _
  rw [Ev.bind]
  congr 1
  funext x S
  cases x <;> first | exact Ev.of rfl | exact ev_no
def withTru (S : Sto) (d : D) (k : Bool → Prop) : Prop := match truD S d with | some b => k b | none => False
@[simp ↓] theorem wt_b {b : Bool} {k : Bool → Prop} : withTru S (.bl b) k = k b := rfl
@[simp ↓] theorem wt_i {n : Int} {k : Bool → Prop} : withTru S (.int n) k = k (n != 0) := rfl
@[simp ↓] theorem wt_l {k : Bool → Prop} : withTru S (.lst ds) k = k (!ds.isEmpty) := rfl
@[simp ↓] theorem wt_t {k : Bool → Prop} : withTru S (.tup ds) k = k (!ds.isEmpty) := rfl
@[simp ↓] theorem wt_n {k : Bool → Prop} : withTru S .non k = k false := rfl
@[simp ↓] theorem ev_eTru : Ev (eTru f env S) QT = Ev (f env S) fun x S => withTru S x fun b => QT b S := by
  show Ev (Res.bind _ _) QT = _
  rw [Ev.bind]
  congr 1
  funext x S
  have key : ∀ z : Option Bool, Ev (match z with | some b => .ok b S | none => .stuck : Res Bool) QT = match z with | some b => QT b S | none => False := fun z => by
    cases z with
    | none => exact ev_no
    | some b => exact Ev.of rfl
  exact key (truD S x)
@[simp ↓] theorem ev_eAndT : Ev (eAndT p q env S) QT = Ev (p env S) fun b S => if b = true then Ev (q env S) QT else QT false S := by
  show Ev (Res.bind _ _) QT = _
  simp only [Ev.bind, ev_ite, ev_ok]
@[simp ↓] theorem ev_eOrT : Ev (eOrT p q env S) QT = Ev (p env S) fun b S => if b = true then QT true S else Ev (q env S) QT := by
  show Ev (Res.bind _ _) QT = _
  simp only [Ev.bind, ev_ite, ev_ok]
@[simp ↓] theorem ev_eNotT : Ev (eNotT p env S) QT = Ev (p env S) fun b S => QT (!b) S := by
  show Ev (Res.bind _ _) QT = _
  simp only [Ev.bind, ev_ok]
theorem ev_bl {α : Type} {x : D} {r : Bool → Res α} {Q : α → Sto → Prop} : Ev (match x with | .bl b => r b | _ => .stuck) Q = match x with | .bl b => Ev (r b) Q | _ => False := by
  cases x <;> first | rfl | exact ev_no
@[simp ↓] theorem ev_eAnd : Ev (eAnd f g env S) Q = Ev (f env S) fun x S => match x with | .bl b => if b = true then Ev (g env S) Q else Q (.bl false) S | _ => False := by
  show Ev (Res.bind _ _) Q = _
  rw [Ev.bind]
  congr 1
  funext x S
  cases x with
  | bl b => cases b <;> first | rfl | exact Ev.of rfl
  | _ => exact ev_no
@[simp ↓] theorem ev_eOr : Ev (eOr f g env S) Q = Ev (f env S) fun x S => match x with | .bl b => if b = true then Q (.bl true) S else Ev (g env S) Q | _ => False := by
  show Ev (Res.bind _ _) Q = _
  rw [Ev.bind]
  congr 1
  funext x S
  cases x with
  | bl b => cases b <;> first | rfl | exact Ev.of rfl
  | _ => exact ev_no
@[simp ↓] theorem ev_eNot : Ev (eNot f env S) Q = Ev (f env S) fun x S => match x with | .bl b => Q (.bl (!b)) S | _ => False := by
  show Ev (Res.bind _ _) Q = _
  rw [Ev.bind]
  congr 1
  funext x S
  cases x <;> first | exact Ev.of rfl | exact ev_no
@[simp ↓] theorem ev_eIf : Ev (eIf p f g env S) Q = Ev (p env S) fun b S => if b = true then Ev (f env S) Q else Ev (g env S) Q := by
  show Ev (Res.bind _ _) Q = _
  simp only [Ev.bind, ev_ite]
@[simp ↓] theorem ev_eChain : Ev (eChain o o' f g h env S) Q = Ev (f env S) fun x S => Ev (g env S) fun y S => Ev (o x y S) fun k S => match k with | .bl b => if b = true then Ev (h env S) fun z S => Ev (o' y z S) Q else Q (.bl false) S | _ => False := by
  show Ev (Res.bind _ _) Q = _
  simp only [Ev.bind]
  congr 1
  funext x S
  congr 1
  funext y S
  congr 1
  funext k S
  cases k with
  | bl b => cases b <;> first | exact Ev.bind | exact Ev.of rfl
  | _ => exact ev_no
@[simp ↓] theorem ev_eNil : Ev (eNil env S) QL = QL [] S := Ev.of rfl
@[simp ↓] theorem ev_eCons : Ev (eCons f l env S) QL = Ev (f env S) fun x S => Ev (l env S) fun xs S => QL (x :: xs) S := by
  show Ev (Res.bind _ _) QL = _
  simp only [Ev.bind, ev_ok]
theorem ev_if1000 {α : Type} {n : Nat} {r : Res α} {Q : α → Sto → Prop} : Ev (if n ≤ 1000 then r else .stuck) Q = (n ≤ 1000 ∧ Ev r Q) := by
  split
  · rename_i h; exact propext ⟨fun q => ⟨h, q⟩, fun q => q.2⟩
  · rename_i h; exact propext ⟨fun ⟨_, _, e, _⟩ => (by cases e), fun q => absurd q.1 h⟩
theorem ev_stk {α : Type} {c : Prop} [Decidable c] {r : Res α} {Q : α → Sto → Prop} : Ev (if c then r else .stuck) Q = (c ∧ Ev r Q) := by
  split
  · rename_i h; exact propext ⟨fun q => ⟨h, q⟩, fun q => q.2⟩
  · rename_i h; exact propext ⟨fun ⟨_, _, e, _⟩ => (by cases e), fun q => absurd q.1 h⟩
@[simp ↓] theorem ev_eTup : Ev (eTup l env S) Q = Ev (l env S) fun xs S => xs.length ≤ 1000 ∧ Q (.tup xs) S := by
  show Ev (Res.bind _ _) Q = _
  simp only [Ev.bind, ev_stk, ev_ok]
@[simp ↓] theorem ev_eDsp : Ev (eDsp l env S) QL = Ev (l env S) fun xs S => xs.length ≤ 1000 ∧ QL xs S := by
  show Ev (Res.bind _ _) QL = _
  simp only [Ev.bind, ev_stk, ev_ok]
@[simp ↓] theorem ev_eLst : Ev (eLst l env S) Q = Ev (l env S) fun ds S => Q (.lst ds) S := by
  show Ev (Res.bind _ _) Q = _
  simp only [Ev.bind, ev_ok]
@[simp ↓] theorem ev_eMu : Ev (eMu l env S) Q = Ev (l env S) fun ds S => Q (.mu S.length) (S ++ [ds]) := by
  show Ev (Res.bind _ _) Q = _
  simp only [Ev.bind, ev_ok]
@[simp ↓] theorem ev_eBlt : Ev (eBlt op l env S) Q = Ev (l env S) fun ds S => Ev (op ds S) Q := Ev.bind
@[simp ↓] theorem ev_eBltN : Ev (eBltN opn l env S) QL = Ev (l env S) fun ds S => Ev (opn ds S) QL := Ev.bind
@[simp ↓] theorem ev_eCall {φ : List D → Sto → Res D} : Ev (eCall φ l env S) Q = Ev (l env S) fun ds S => Ev (φ ds S) Q := Ev.bind
@[simp ↓] theorem ev_lenL : Ev (bLen [.lst ds] S) Q = Q (.int ds.length) S := Ev.of rfl
@[simp ↓ high] theorem ev_lenLM {γ : Type} {e : γ → D} {xs : List γ} : Ev (bLen [.lst (xs.map e)] S) Q = Q (.int xs.length) S := Ev.of (by show Res.ok (D.int (xs.map e).length) S = _; rw [List.length_map])
@[simp ↓ high] theorem ev_lenTM {γ : Type} {e : γ → D} {xs : List γ} : Ev (bLen [.tup (xs.map e)] S) Q = Q (.int xs.length) S := Ev.of (by show Res.ok (D.int (xs.map e).length) S = _; rw [List.length_map])
@[simp ↓] theorem ev_lenT : Ev (bLen [.tup ds] S) Q = Q (.int ds.length) S := Ev.of rfl
@[simp ↓] theorem ev_intI : Ev (bInt [.int k] S) Q = Q (.int k) S := Ev.of rfl
@[simp ↓] theorem ev_intB {b : Bool} : Ev (bInt [.bl b] S) Q = Q (.int (if b then 1 else 0)) S := Ev.of rfl
@[simp ↓] theorem ev_abs : Ev (bAbs [.int k] S) Q = Q (.int (if k < 0 then -k else k)) S := Ev.of rfl
@[simp ↓] theorem ev_max2 : Ev (bMax2 [.int k, .int m] S) Q = Q (.int (max k m)) S := Ev.of (by
  show Res.ok (D.int (if m > k then m else k)) S = _
  congr 2
  split <;> omega)
@[simp ↓] theorem ev_min2 : Ev (bMin2 [.int k, .int m] S) Q = Q (.int (min k m)) S := Ev.of (by
  show Res.ok (D.int (if m < k then m else k)) S = _
  congr 2
  split <;> omega)
@[simp ↓] theorem ev_tupL : Ev (bTuple [.lst ds] S) Q = Q (.tup ds) S := Ev.of rfl
@[simp ↓] theorem ev_tupT : Ev (bTuple [.tup ds] S) Q = Q (.tup ds) S := Ev.of rfl
@[simp ↓] theorem ev_listL : Ev (bList [.lst ds] S) QL = QL ds S := Ev.of rfl
@[simp ↓] theorem ev_listT : Ev (bList [.tup ds] S) QL = QL ds S := Ev.of rfl
theorem ev_any (bs : List Bool) : Ev (bAny [.lst (bs.map .bl)] S) Q = Q (.bl (bs.any id)) S := Ev.of (by
  show (match allBl (bs.map .bl) with | some bs => Res.ok (D.bl (bs.any id)) S | none => .stuck) = _
  rw [allBl_of])
theorem ev_all (bs : List Bool) : Ev (bAll [.lst (bs.map .bl)] S) Q = Q (.bl (bs.all id)) S := Ev.of (by
  show (match allBl (bs.map .bl) with | some bs => Res.ok (D.bl (bs.all id)) S | none => .stuck) = _
  rw [allBl_of])
theorem ev_maxL (n : Int) (ns : List Int) : Ev (bMax [.lst ((n :: ns).map .int)] S) Q = Q (.int (ns.foldl max n)) S := Ev.of (by
  show (match allInt ((n :: ns).map .int) with | some (n :: ns) => Res.ok (D.int (ns.foldl max n)) S | _ => .stuck) = _
  rw [allInt_of])
theorem ev_minL (n : Int) (ns : List Int) : Ev (bMin [.lst ((n :: ns).map .int)] S) Q = Q (.int (ns.foldl min n)) S := Ev.of (by
  show (match allInt ((n :: ns).map .int) with | some (n :: ns) => Res.ok (D.int (ns.foldl min n)) S | _ => .stuck) = _
  rw [allInt_of])
@[simp ↓] theorem ev_maxP : Ev (bMax [.tup [.int k, .int m]] S) Q = Q (.int (max k m)) S := Ev.of rfl
@[simp ↓] theorem ev_minP : Ev (bMin [.tup [.int k, .int m]] S) Q = Q (.int (min k m)) S := Ev.of rfl
theorem ev_opt {α β : Type} {x : Option β} {r : β → Res α} {Q : α → Sto → Prop} : Ev (match x with | some b => r b | none => .stuck) Q = match x with | some b => Ev (r b) Q | none => False := by
  cases x with
  | some b => rfl
  | none => exact ev_no
def withSeq (d : D) (k : List D → Prop) : Prop := match seqD d with | some ds => k ds | none => False
@[simp ↓] theorem wq_l {k : List D → Prop} : withSeq (.lst ds) k = k ds := rfl
@[simp ↓] theorem wq_t {k : List D → Prop} : withSeq (.tup ds) k = k ds := rfl
@[simp ↓] theorem ev_iD : Ev (iD f env S) QL = Ev (f env S) fun d S => withSeq d fun ds => QL ds S := by
  show Ev (Res.bind _ _) QL = _
  rw [Ev.bind]
  congr 1
  funext d S
  unfold withSeq
  generalize seqD d = x
  cases x <;> first | exact ev_no | exact Ev.of rfl
@[simp ↓] theorem ev_iRg1 : Ev (iRg1 f env S) QL = Ev (f env S) fun d S => match d with | .int j => (-1000000 ≤ j ∧ j ≤ 1000000) ∧ QL (rangeD 0 j.toNat) S | _ => False := by
  show Ev (Res.bind _ _) QL = _
  rw [Ev.bind]
  congr 1
  funext d S
  cases d with
  | int j => show Ev (if _ then _ else _) QL = _; rw [ev_stk, ev_ok]
  | _ => exact ev_no
@[simp ↓] theorem ev_iRg2 : Ev (iRg2 f g env S) QL = Ev (f env S) fun d S => Ev (g env S) fun e S => match d, e with
  | .int i, .int j => ((-1000000 ≤ i ∧ i ≤ 1000000) ∧ -1000000 ≤ j ∧ j ≤ 1000000) ∧ QL (rangeD i (j - i).toNat) S
  | _, _ => False := by
  show Ev (Res.bind _ _) QL = _
  simp only [Ev.bind]
  congr 1
  funext d S
  congr 1
  funext e S
  cases d with
  | int i => cases e with
    | int j => show Ev (if _ then _ else _) QL = _; rw [ev_stk, ev_ok]
    | _ => exact ev_no
  | _ => exact ev_no
@[simp ↓] theorem ev_iEn : Ev (iEn f env S) QL = Ev (f env S) fun d S => withSeq d fun ds => QL (enD ds) S := by
  show Ev (Res.bind _ _) QL = _
  rw [Ev.bind]
  congr 1
  funext d S
  unfold withSeq
  generalize seqD d = x
  cases x <;> first | exact ev_no | exact Ev.of rfl
def withTwo (d e : D) (k : List D → List D → Prop) : Prop := match two d e with | some p => k p.1 p.2 | none => False
@[simp ↓] theorem w2_l {k : List D → List D → Prop} : withTwo (.lst ds) (.lst es) k = k ds es := rfl
@[simp ↓] theorem w2_t {k : List D → List D → Prop} : withTwo (.tup ds) (.tup es) k = k ds es := rfl
@[simp ↓] theorem ev_iZi : Ev (iZi f g env S) QL = Ev (f env S) fun d S => Ev (g env S) fun e S => withTwo d e fun xs ys => QL (zipD xs ys) S := by
  show Ev (Res.bind _ _) QL = _
  simp only [Ev.bind]
  congr 1
  funext d S
  congr 1
  funext e S
  unfold withTwo
  generalize two d e = x
  cases x <;> first | exact ev_no | exact Ev.of rfl
@[simp ↓] theorem ev_eListEn : Ev (eListEn f env S) QL = Ev (f env S) fun d S => match d with | .lst ds => QL (enD ds) S | _ => False := by
  show Ev (Res.bind _ _) QL = _
  rw [Ev.bind]
  congr 1
  funext d S
  cases d <;> first | exact Ev.of rfl | exact ev_no
@[simp ↓] theorem ev_eListZi : Ev (eListZi f g env S) QL = Ev (f env S) fun d S => Ev (g env S) fun e S => match d, e with | .lst xs, .lst ys => QL (zipD xs ys) S | _, _ => False := by
  show Ev (Res.bind _ _) QL = _
  simp only [Ev.bind]
  congr 1
  funext d S
  congr 1
  funext e S
  cases d <;> cases e <;> first | exact Ev.of rfl | exact ev_no
@[simp ↓] theorem ev_eComp {it : EL} {g : GE} {vs : List Nat} : Ev (eComp it g p f vs env S) QL = Ev (it env S) fun ds S => withWipe env vs fun env => Ev (compGo g p f env ds S) QL := Ev.bind
@[simp ↓] theorem ev_eComp2 {it it1 : EL} {g g1 : GE} {p1 : ET} {vs vs1 : List Nat} : Ev (eComp2 it g p it1 g1 p1 f vs vs1 env S) QL = Ev (it env S) fun ds S => withWipe env vs fun env => Ev (compGo2 g p it1 g1 p1 f vs1 env ds S) fun ys S => ys.length ≤ 1000000 ∧ QL ys S := by
  show Ev (Res.bind _ _) QL = _
  simp only [Ev.bind, ev_stk, ev_ok]
  rfl
@[simp ↓] theorem ev_eYes : Ev (eYes env S) QT = QT true S := Ev.of rfl
@[simp ↓] theorem ev_eCatN : Ev (eCatN l l' env S) QL = Ev (l env S) fun xs S => Ev (l' env S) fun ys S => xs.length + ys.length ≤ 1000000 ∧ QL (xs ++ ys) S := by
  show Ev (Res.bind _ _) QL = _
  simp only [Ev.bind, ev_stk, ev_ok]
@[simp ↓] theorem ev_eSl {u v : Option Int} : Ev (eSl f (fun _ S => .ok u S) (fun _ S => .ok v S) env S) Q = Ev (f env S) fun d S => match d with
  | .lst xs => Q (.lst (cutD xs u v)) S | .tup xs => Q (.tup (cutD xs u v)) S | _ => False := by
  show Ev (Res.bind _ _) Q = _
  rw [Ev.bind]
  congr 1
  funext d S
  cases d <;> first | exact Ev.of rfl | exact ev_no
theorem oSo_int : oSo (eC (.int k)) = fun _ S => .ok (some k) S := rfl
theorem oNo_eq : oNo = fun _ S => .ok none S := rfl
def withTy (c : String) (d : D) (k : Bool → Prop) : Prop := match isTy c d with | some b => k b | none => False
@[simp ↓] theorem wy_iL {k : Bool → Prop} : withTy "list" (.lst ds) k = k true := rfl
@[simp ↓] theorem wy_tL {k : Bool → Prop} : withTy "tuple" (.lst ds) k = k false := rfl
@[simp ↓] theorem wy_iT {k : Bool → Prop} : withTy "list" (.tup ds) k = k false := rfl
@[simp ↓] theorem wy_tT {k : Bool → Prop} : withTy "tuple" (.tup ds) k = k true := rfl
@[simp ↓] theorem wy_ii {n : Int} {k : Bool → Prop} : withTy "int" (.int n) k = k true := rfl
@[simp ↓] theorem wy_bi {n : Int} {k : Bool → Prop} : withTy "bool" (.int n) k = k false := rfl
@[simp ↓] theorem wy_ib {b : Bool} {k : Bool → Prop} : withTy "int" (.bl b) k = k true := rfl
@[simp ↓] theorem wy_bb {b : Bool} {k : Bool → Prop} : withTy "bool" (.bl b) k = k true := rfl
@[simp ↓] theorem wy_in {k : Bool → Prop} : withTy "int" .non k = k false := rfl
@[simp ↓] theorem wy_bn {k : Bool → Prop} : withTy "bool" .non k = k false := rfl
@[simp ↓] theorem wy_is {x : Str} {k : Bool → Prop} : withTy "int" (.str x) k = k false := rfl
@[simp ↓] theorem ev_eIsi {c : String} : Ev (eIsi c f env S) Q = Ev (f env S) fun d S => withTy c d fun b => Q (.bl b) S := by
  show Ev (Res.bind _ _) Q = _
  rw [Ev.bind]
  congr 1
  funext d S
  unfold withTy
  generalize isTy c d = x
  cases x <;> first | exact ev_no | exact Ev.of rfl
@[simp ↓] theorem ev_eIsi2 {c c' : String} : Ev (eIsi2 c c' f env S) Q = Ev (f env S) fun d S => withTy c d fun b => withTy c' d fun b' => Q (.bl (b || b')) S := by
  show Ev (Res.bind _ _) Q = _
  rw [Ev.bind]
  congr 1
  funext d S
  unfold withTy
  cases isTy c d <;> cases isTy c' d <;> first | exact Ev.of rfl | exact ev_no
@[simp ↓] theorem ev_minDef {gg : Int → List Int → Int} : Ev (eMinDef gg f g env S) Q = Ev (f env S) fun d S => Ev (g env S) fun z S => match d with
  | .lst xs => (match allInt xs with | some [] => Q z S | some (n :: ns) => Q (.int (gg n ns)) S | none => False)
  | _ => False := by
  show Ev (Res.bind _ _) Q = _
  simp only [Ev.bind]
  congr 1
  funext d S
  congr 1
  funext z S
  cases d with
  | lst xs =>
    show Ev (match allInt xs with | some [] => Res.ok z S | some (n :: ns) => .ok (.int (gg n ns)) S | none => .stuck) Q = match allInt xs with | some [] => Q z S | some (n :: ns) => Q (.int (gg n ns)) S | none => False
    cases allInt xs with
    | none => exact ev_no
    | some ns => cases ns <;> exact Ev.of rfl
  | _ => exact ev_no
end
/-- statements: what follows, what is returned, break, continue -/
def EvS (r : Res Out) (nx : Env → Sto → Prop) (rt : D → Sto → Prop) (bk ct : Env → Sto → Prop) : Prop := Ev r fun o S => match o with | .nx e => nx e S | .rt d => rt d S | .bk e => bk e S | .ct e => ct e S
section
variable {env : Env} {S : Sto} {f g h : EE} {l : EL} {p : ET} {s t : SS} {i : Nat} {d : D} {nx bk ct : Env → Sto → Prop} {rt : D → Sto → Prop}
theorem evs_bind {α : Type} {r : Res α} {k : α → Sto → Res Out} : EvS (r.bind k) nx rt bk ct = Ev r fun a S => EvS (k a S) nx rt bk ct := Ev.bind
theorem evs_no : EvS .stuck nx rt bk ct = False := ev_no
@[simp ↓] theorem evs_nx : EvS (.ok (.nx env) S) nx rt bk ct = nx env S := Ev.of rfl
@[simp ↓] theorem evs_rt : EvS (.ok (.rt d) S) nx rt bk ct = rt d S := Ev.of rfl
@[simp ↓] theorem evs_bk : EvS (.ok (.bk env) S) nx rt bk ct = bk env S := Ev.of rfl
@[simp ↓] theorem evs_ct : EvS (.ok (.ct env) S) nx rt bk ct = ct env S := Ev.of rfl
@[simp ↓] theorem es_nil : EvS (sNil env S) nx rt bk ct = nx env S := Ev.of rfl
@[simp ↓] theorem es_seq : EvS (sSeq s t env S) nx rt bk ct = EvS (s env S) (fun env S => EvS (t env S) nx rt bk ct) rt bk ct := by
  show EvS (Res.bind _ _) nx rt bk ct = _
  rw [evs_bind]
  unfold EvS
  congr 1
  funext x S
  cases x <;> first | rfl | exact Ev.of rfl
@[simp ↓] theorem es_set : EvS (sSet i f env S) nx rt bk ct = Ev (f env S) fun d S => withSet env i (some (.sh d)) fun env => nx env S := by
  show EvS (Res.bind _ _) nx rt bk ct = _
  simp only [evs_bind, evs_nx]
  rfl
@[simp ↓] theorem es_new : EvS (sNew i l env S) nx rt bk ct = Ev (l env S) fun ds S => withSet env i (some (.own ds)) fun env => nx env S := by
  show EvS (Res.bind _ _) nx rt bk ct = _
  simp only [evs_bind, evs_nx]
  rfl
@[simp ↓] theorem es_ret : EvS (sRet f env S) nx rt bk ct = Ev (f env S) rt := by
  show EvS (Res.bind _ _) nx rt bk ct = _
  simp only [evs_bind, evs_rt]
@[simp ↓] theorem es_retN : EvS (sRetN env S) nx rt bk ct = rt .non S := Ev.of rfl
@[simp ↓] theorem es_if : EvS (sIf p s t env S) nx rt bk ct = Ev (p env S) fun b S => if b = true then EvS (s env S) nx rt bk ct else EvS (t env S) nx rt bk ct := by
  show EvS (Res.bind _ _) nx rt bk ct = _
  rw [evs_bind]
  congr 1
  funext b S
  cases b <;> rfl
@[simp ↓] theorem es_drop : EvS (sDrop f env S) nx rt bk ct = Ev (f env S) fun _ S => nx env S := by
  show EvS (Res.bind _ _) nx rt bk ct = _
  simp only [evs_bind, evs_nx]
@[simp ↓] theorem es_asgT {g : GE} : EvS (sAsgT g f env S) nx rt bk ct = Ev (f env S) fun d S => withG g d env fun env => nx env S := by
  show EvS (Res.bind _ _) nx rt bk ct = _
  rw [evs_bind]
  congr 1
  funext d S
  unfold withG
  cases g d env with
  | some e => exact Ev.of rfl
  | none => exact ev_no
@[simp ↓] theorem es_app : EvS (sApp i f env S) nx rt bk ct = Ev (f env S) fun d S => withOwn env i fun ds => ds.length < 1000000 ∧ withSet env i (some (.own (ds ++ [d]))) fun env => nx env S := by
  show EvS (Res.bind _ _) nx rt bk ct = _
  rw [evs_bind]
  congr 1
  funext d S
  have key : ∀ z : Option (Option Slot), EvS (match z with | some (some (.own ds)) => if ds.length < 1000000 then .ok (.nx (env.set i (some (.own (ds ++ [d]))))) S else .stuck | _ => .stuck) nx rt bk ct = match z with | some (some (.own ds)) => ds.length < 1000000 ∧ nx (env.set i (some (.own (ds ++ [d])))) S | _ => False := fun z => by
    cases z with
    | none => exact evs_no
    | some y =>
      cases y with
      | none => exact evs_no
      | some w =>
        cases w with
        | sh _ => exact evs_no
        | own ds =>
          show Ev (if _ then _ else _) _ = _
          rw [ev_stk]
          congr 1
          exact evs_nx
  exact key env[i]?
@[simp ↓] theorem es_pop : EvS (sPop i env S) nx rt bk ct = withOwn env i fun ds => ds ≠ [] ∧ withSet env i (some (.own ds.dropLast)) fun env => nx env S := by
  have key : ∀ z : Option (Option Slot), EvS (match z with | some (some (.own ds)) => if ds = [] then .stuck else .ok (.nx (env.set i (some (.own ds.dropLast)))) S | _ => .stuck) nx rt bk ct = match z with | some (some (.own ds)) => ds ≠ [] ∧ nx (env.set i (some (.own ds.dropLast))) S | _ => False := fun z => by
    cases z with
    | none => exact evs_no
    | some y =>
      cases y with
      | none => exact evs_no
      | some w =>
        cases w with
        | sh _ => exact evs_no
        | own ds =>
          show EvS (if ds = [] then .stuck else .ok (.nx (env.set i (some (.own ds.dropLast)))) S) nx rt bk ct = (ds ≠ [] ∧ nx (env.set i (some (.own ds.dropLast))) S)
          by_cases hd : ds = []
          · rw [if_pos hd, evs_no]; exact propext ⟨False.elim, fun q => absurd hd q.1⟩
          · rw [if_neg hd, evs_nx]; exact propext ⟨fun q => ⟨hd, q⟩, fun q => q.2⟩
  exact key env[i]?
@[simp ↓] theorem es_frz : EvS (sFrz i s env S) nx rt bk ct = withFrz env i fun env => EvS (s env S) nx rt bk ct := by
  have key : ∀ z : Option (Option Slot), EvS (match z with | some (some (.own ds)) => s (env.set i (some (.sh (.lst ds)))) S | _ => s env S) nx rt bk ct = match z with | some (some (.own ds)) => EvS (s (env.set i (some (.sh (.lst ds)))) S) nx rt bk ct | _ => EvS (s env S) nx rt bk ct := fun z => by
    cases z with
    | none => rfl
    | some y =>
      cases y with
      | none => rfl
      | some w => cases w <;> rfl
  exact key env[i]?
@[simp ↓] theorem es_store1 : EvS (sStore f (eV 0) (eC (.int 1)) (some (.sh (.mu 0)) :: env) S) nx rt bk ct = Ev (f (some (.sh (.mu 0)) :: env) S) fun d S => match S with | [[a, _, c]] => nx (some (.sh (.mu 0)) :: env) [[a, d, c]] | S => EvS (sStore (eC d) (eV 0) (eC (.int 1)) (some (.sh (.mu 0)) :: env) S) nx rt bk ct := by
  show EvS (Res.bind _ _) nx rt bk ct = _
  rw [evs_bind]
  congr 1
  funext d S
  split
  · exact Ev.of rfl
  · rfl
@[simp ↓] theorem es_store2 : EvS (sStore f (eV 0) (eC (.int 2)) (some (.sh (.mu 0)) :: env) S) nx rt bk ct = Ev (f (some (.sh (.mu 0)) :: env) S) fun d S => match S with | [[a, b, _]] => nx (some (.sh (.mu 0)) :: env) [[a, b, d]] | S => EvS (sStore (eC d) (eV 0) (eC (.int 2)) (some (.sh (.mu 0)) :: env) S) nx rt bk ct := by
  show EvS (Res.bind _ _) nx rt bk ct = _
  rw [evs_bind]
  congr 1
  funext d S
  split
  · exact Ev.of rfl
  · rfl
@[simp ↓] theorem es_for {it : EL} {g : GE} {b : SS} : EvS (sFor it g b env S) nx rt bk ct = Ev (it env S) fun ds S => EvS (forGo g b ds env S) nx rt bk ct := evs_bind
@[simp ↓] theorem es_stuck : EvS (sStuck env S) nx rt bk ct = False := ev_no
theorem ev_runD {N : Nat} {ds : List D} {Q : D → Sto → Prop} : Ev (runD N s ds S) Q = EvS (s (startE N ds) S) (fun _ S => Q .non S) Q (fun _ _ => False) (fun _ _ => False) := by
  unfold runD EvS
  cases s (startE N ds) S with
  | stuck => exact propext ⟨fun ⟨_, _, e, _⟩ => (by cases e), fun ⟨_, _, e, _⟩ => (by cases e)⟩
  | ok o S' =>
    rw [ev_ok]
    cases o <;> first | exact Ev.of rfl | exact ev_no
theorem EvS.imp {r : Res Out} {nx' bk' ct' : Env → Sto → Prop} {rt' : D → Sto → Prop} (h : EvS r nx rt bk ct) (i1 : ∀ e S, nx e S → nx' e S) (i2 : ∀ d S, rt d S → rt' d S) (i3 : ∀ e S, bk e S → bk' e S) (i4 : ∀ e S, ct e S → ct' e S) : EvS r nx' rt' bk' ct' := by
  refine Ev.imp h fun o S q => ?_
  cases o with
  | nx e => exact i1 e S q
  | rt e => exact i2 e S q
  | bk e => exact i3 e S q
  | ct e => exact i4 e S q
end

/-! ### loops -/
theorem forGo_inv {g : GE} {b : SS} {nx bk ct : Env → Sto → Prop} {rt : D → Sto → Prop} (P : Nat → Env → Sto → Prop) : ∀ (ds : List D) (i : Nat) (h : ∀ j d env S, ds[j]? = some d → P (i + j) env S → withG g d env fun env1 => EvS (b env1 S) (P (i + j + 1)) rt nx (P (i + j + 1))) (env : Env) (S : Sto), P i env S →
    (∀ env S, P (i + ds.length) env S → nx env S) → EvS (forGo g b ds env S) nx rt bk ct
  | [], i, _, env, S, p, q => ⟨.nx env, S, rfl, q env S p⟩
  | d :: ds, i, h, env, S, p, q => by
    obtain ⟨env1, e1, o, S2, e2, p2⟩ := (h 0 d env S rfl p).out
    have ih := fun env2 S2 p2 => forGo_inv (nx := nx) (bk := bk) (ct := ct) (rt := rt) P ds (i + 1) (fun j d env S hd hp => by
      have := h (j + 1) d env S (by simpa using hd) (by rw [show i + (j + 1) = i + 1 + j by omega]; exact hp)
      rw [show i + (j + 1) + 1 = i + 1 + j + 1 by omega] at this
      exact this) env2 S2 p2 (fun env S p => q env S (by rw [List.length_cons, show i + (ds.length + 1) = i + 1 + ds.length by omega]; exact p))
    have e : forGo g b (d :: ds) env S = (b env1 S).bind fun o S => match o with
      | .nx env2 => forGo g b ds env2 S | .ct env2 => forGo g b ds env2 S | .bk env2 => .ok (.nx env2) S | .rt d => .ok (.rt d) S := by
      show (match g d env with | none => Res.stuck | some env1 => (b env1 S).bind fun o S => match o with
        | .nx env2 => forGo g b ds env2 S | .ct env2 => forGo g b ds env2 S | .bk env2 => .ok (.nx env2) S | .rt d => .ok (.rt d) S) = _
      rw [e1]
    rw [e, e2, Res.bind_eq]
    cases o with
    | nx env2 => exact ih env2 S2 p2
    | ct env2 => exact ih env2 S2 p2
    | bk env2 => exact ⟨_, _, rfl, p2⟩
    | rt d => exact ⟨_, _, rfl, p2⟩
/-- a state goes along -/
theorem forGo_fold {γ β : Type} {g : GE} {b : SS} {nx bk ct : Env → Sto → Prop} {rt : D → Sto → Prop} (enc : γ → D) (P : β → Env → Sto → Prop) (step : β → γ → β) : ∀ (xs : List γ) (h : ∀ c x env S, x ∈ xs → P c env S → withG g (enc x) env fun env1 => EvS (b env1 S) (P (step c x)) rt nx (P (step c x))) (c : β) (env : Env) (S : Sto), P c env S →
    (∀ env S, P (xs.foldl step c) env S → nx env S) → EvS (forGo g b (xs.map enc) env S) nx rt bk ct
  | [], _, c, env, S, p, q => ⟨.nx env, S, rfl, q env S p⟩
  | x :: xs, h, c, env, S, p, q => by
    obtain ⟨env1, e1, o, S2, e2, p2⟩ := (h c x env S List.mem_cons_self p).out
    have ih := fun env2 S2 p2 => forGo_fold (nx := nx) (bk := bk) (ct := ct) (rt := rt) enc P step xs (fun c x env S hx => h c x env S (List.mem_cons_of_mem _ hx)) (step c x) env2 S2 p2 q
    have e : forGo g b (enc x :: xs.map enc) env S = (b env1 S).bind fun o S => match o with
      | .nx env2 => forGo g b (xs.map enc) env2 S | .ct env2 => forGo g b (xs.map enc) env2 S | .bk env2 => .ok (.nx env2) S | .rt d => .ok (.rt d) S := by
      show (match g (enc x) env with | none => Res.stuck | some env1 => (b env1 S).bind fun o S => match o with
        | .nx env2 => forGo g b (xs.map enc) env2 S | .ct env2 => forGo g b (xs.map enc) env2 S | .bk env2 => .ok (.nx env2) S | .rt d => .ok (.rt d) S) = _
      rw [e1]
    show EvS (forGo g b (enc x :: xs.map enc) env S) nx rt bk ct
    rw [e, e2, Res.bind_eq]
    cases o with
    | nx env2 => exact ih env2 S2 p2
    | ct env2 => exact ih env2 S2 p2
    | bk env2 => exact ⟨_, _, rfl, p2⟩
    | rt d => exact ⟨_, _, rfl, p2⟩
theorem compGo_pure {γ : Type} {g : GE} {p : ET} {f : EE} {env0 : Env} {S : Sto} {Q : List D → Sto → Prop} (enc : γ → D) (keep : γ → Bool) (out : γ → D) (xs : List γ) (h : ∀ x ∈ xs, withG g (enc x) env0 fun env => Ev (p env S) fun b S1 => b = keep x ∧ S1 = S ∧ (keep x = true → Ev (f env S) fun d S2 => d = out x ∧ S2 = S)) :
    Ev (compGo g p f env0 (xs.map enc) S) Q = Q ((xs.filter keep).map out) S := by
  refine Ev.of ?_
  induction xs with
  | nil => rfl
  | cons x xs ih =>
    obtain ⟨env, e1, _, _, e2, rfl, rfl, e3⟩ := (h x List.mem_cons_self).out
    have ih := ih fun y hy => h y (List.mem_cons_of_mem _ hy)
    show (match g (enc x) env0 with | none => Res.stuck | some env => (p env _).bind fun k S => if k = true then (f env S).bind fun y S => (compGo g p f env0 (xs.map enc) S).bind fun ys S => .ok (y :: ys) S else compGo g p f env0 (xs.map enc) S) = _
    rw [e1]
    show (p env _).bind _ = _
    rw [e2, Res.bind_eq, List.filter_cons]
    cases hk : keep x with
    | true =>
      obtain ⟨_, _, e4, rfl, rfl⟩ := e3 hk
      rw [if_pos rfl, e4, Res.bind_eq, ih, Res.bind_eq, if_pos rfl]
      rfl
    | false =>
      rw [if_neg (by simp), ih, if_neg (by simp)]
theorem compGo_all {γ : Type} {g : GE} {f : EE} {env0 : Env} {S : Sto} {Q : List D → Sto → Prop} (enc : γ → D) (out : γ → D) (xs : List γ) (h : ∀ x ∈ xs, withG g (enc x) env0 fun env => Ev (f env S) fun d S2 => d = out x ∧ S2 = S) :
    Ev (compGo g eYes f env0 (xs.map enc) S) Q = Q (xs.map out) S := by
  rw [compGo_pure enc (fun _ => true) out xs fun x hx => by
    obtain ⟨env, e1, e2⟩ := (h x hx).out
    unfold withG
    rw [e1]
    exact ⟨true, S, rfl, rfl, rfl, fun _ => e2⟩]
  rw [List.filter_eq_self.mpr fun _ _ => rfl]
/-- a comprehension whose steps change the store -/
theorem compGo_st {γ : Type} {g : GE} {f : EE} {env0 : Env} (enc : γ → D) (P : Nat → Sto → Prop) (R : γ → D → Prop) : ∀ (xs : List γ) (i : Nat) (S : Sto) (h : ∀ x ∈ xs, ∀ j S, j < i + xs.length → P j S → withG g (enc x) env0 fun env => Ev (f env S) fun y S' => P (j + 1) S' ∧ R x y), P i S →
    Ev (compGo g eYes f env0 (xs.map enc) S) fun ys S' => P (i + xs.length) S' ∧ ys.length = xs.length ∧ ∀ y ∈ ys, ∃ x ∈ xs, R x y
  | [], i, S, _, p => ⟨[], S, rfl, p, rfl, fun y hy => (by cases hy)⟩
  | x :: xs, i, S, h, p => by
    obtain ⟨env, e1, y, S1, e2, p1, r1⟩ := (h x List.mem_cons_self i S (by rw [List.length_cons]; omega) p).out
    obtain ⟨ys, S', e3, p3, hl, r3⟩ := compGo_st enc P R xs (i + 1) S1 (fun x hx j S hj => h x (List.mem_cons_of_mem _ hx) j S (by rw [List.length_cons]; omega)) p1
    refine ⟨y :: ys, S', ?_, by rw [List.length_cons, show i + (xs.length + 1) = i + 1 + xs.length by omega]; exact p3, by rw [List.length_cons, List.length_cons, hl], fun z hz => ?_⟩
    · show (match g (enc x) env0 with | none => Res.stuck | some env => (eYes env S).bind fun k S => if k = true then (f env S).bind fun y S => (compGo g eYes f env0 (xs.map enc) S).bind fun ys S => .ok (y :: ys) S else compGo g eYes f env0 (xs.map enc) S) = _
      rw [e1]
      show (f env S).bind _ = _
      rw [e2, Res.bind_eq, e3]
      rfl
    · rcases List.mem_cons.mp hz with r | r
      · rw [r]; exact ⟨x, List.mem_cons_self, r1⟩
      · obtain ⟨w, hw, rw'⟩ := r3 z r
        exact ⟨w, List.mem_cons_of_mem _ hw, rw'⟩
end DL

/-! DL14: == of encoded things, sorted, the pen that draws. -/
namespace DL
open PySem PySem.Spec PyProof.Rows L2
/-- an encoding that == tells apart -/
structure EqE {α : Type} (f : α → D) (n : Nat) : Prop where
  pl : ∀ a, pl (f a) = true
  dp : ∀ a, (toPy (f a)).depth ≤ n
  eq : ∀ a b, eqD (f a) (f b) = true ↔ a = b
theorem eqv_int (i j : Int) : PyData.eqv (.int i) (.int j) = (i == j) := by simp only [PyData.eqv]
theorem eqE_int : EqE D.int 0 := ⟨fun _ => rfl, fun _ => Nat.le_refl _, fun a b => by show PyData.eqv (.int a) (.int b) = true ↔ _; rw [eqv_int, beq_iff_eq]⟩
def dOpt : Option Int → D
  | none => .non
  | some i => .int i
theorem eqE_opt : EqE dOpt 0 := ⟨fun a => by cases a <;> rfl, fun a => by cases a <;> exact Nat.le_refl _, fun a b => by
  cases a <;> cases b
  · show PyData.eqv .none .none = true ↔ _; simp [PyData.eqv]
  · show PyData.eqv .none (.int _) = true ↔ _; simp [PyData.eqv]
  · show PyData.eqv (.int _) .none = true ↔ _; simp [PyData.eqv]
  · show PyData.eqv (.int _) (.int _) = true ↔ _; simp [PyData.eqv]⟩
theorem eqE_pair : EqE dPair 1 := ⟨fun a => rfl, fun a => Nat.le_refl _, fun a b => by
  show PyData.eqv (.tuple [.int _, .int _]) (.tuple [.int _, .int _]) = true ↔ _
  simp only [PyData.eqv, PyData.eqvAll, Bool.and_true, Bool.and_eq_true, beq_iff_eq]
  exact ⟨fun ⟨h1, h2⟩ => Prod.ext h1 h2, fun h => by rw [h]; exact ⟨rfl, rfl⟩⟩⟩
section
variable {α : Type} {f : α → D} {n : Nat}
theorem plAll_map (h : EqE f n) : ∀ xs : List α, plAll (xs.map f) = true
  | [] => rfl
  | x :: xs => by show (DL.pl (f x) && plAll (xs.map f)) = true; rw [h.pl x, plAll_map h xs] <;> rfl
theorem depthAll_map (h : EqE f n) : ∀ xs : List α, PyData.depthAll (toPyAll (xs.map f)) ≤ n
  | [] => Nat.zero_le _
  | x :: xs => by
    show max (PyData.depth (toPy (f x))) (PyData.depthAll (toPyAll (xs.map f))) ≤ n
    exact Nat.max_le.mpr ⟨h.dp x, depthAll_map h xs⟩
theorem eqvAll_map (h : EqE f n) : ∀ xs ys : List α, PyData.eqvAll (toPyAll (xs.map f)) (toPyAll (ys.map f)) = true ↔ xs = ys
  | [], [] => by simp only [List.map_nil, toPyAll, PyData.eqvAll]
  | [], y :: ys => by
    show PyData.eqvAll [] (toPy (f y) :: toPyAll (ys.map f)) = true ↔ _
    simp [PyData.eqvAll]
  | x :: xs, [] => by
    show PyData.eqvAll (toPy (f x) :: toPyAll (xs.map f)) [] = true ↔ _
    simp [PyData.eqvAll]
  | x :: xs, y :: ys => by
    show PyData.eqvAll (toPy (f x) :: toPyAll (xs.map f)) (toPy (f y) :: toPyAll (ys.map f)) = true ↔ _
    simp only [PyData.eqvAll, Bool.and_eq_true]
    rw [eqvAll_map h xs ys, List.cons.injEq]
    exact ⟨fun ⟨a, b⟩ => ⟨(h.eq x y).mp a, b⟩, fun ⟨a, b⟩ => ⟨(h.eq x y).mpr a, b⟩⟩
theorem eqE_lst (h : EqE f n) : EqE (fun xs : List α => .lst (xs.map f)) (n + 1) := ⟨fun xs => plAll_map h xs, fun xs => Nat.succ_le_succ (depthAll_map h xs), fun xs ys => by
  show PyData.eqv (.list _) (.list _) = true ↔ _
  simp only [PyData.eqv]
  exact eqvAll_map h xs ys⟩
theorem eqE_tup (h : EqE f n) : EqE (fun xs : List α => .tup (xs.map f)) (n + 1) := ⟨fun xs => plAll_map h xs, fun xs => Nat.succ_le_succ (depthAll_map h xs), fun xs ys => by
  show PyData.eqv (.tuple _) (.tuple _) = true ↔ _
  simp only [PyData.eqv]
  exact eqvAll_map h xs ys⟩
theorem EqE.okD (h : EqE f n) (hn : n ≤ 40) (a : α) : okD (f a) = true := by
  show (DL.pl (f a) && decide ((toPy (f a)).depth ≤ 40)) = true
  rw [h.pl a, Bool.true_and, decide_eq_true_eq]
  exact Nat.le_trans (h.dp a) hn
theorem EqE.eqD [DecidableEq α] (h : EqE f n) (a b : α) : eqD (f a) (f b) = decide (a = b) := by
  rw [Bool.eq_iff_iff, decide_eq_true_eq]
  exact h.eq a b
theorem EqE.oEq [DecidableEq α] (h : EqE f n) (hn : n ≤ 40) (a b : α) (S : Sto) (Q : D → Sto → Prop) : Ev (oEq (f a) (f b) S) Q = Q (.bl (decide (a = b))) S := by
  rw [ev_oEq (h.okD hn a) (h.okD hn b), h.eqD]
theorem EqE.oNe [DecidableEq α] (h : EqE f n) (hn : n ≤ 40) (a b : α) (S : Sto) (Q : D → Sto → Prop) : Ev (oNe (f a) (f b) S) Q = Q (.bl (!decide (a = b))) S := by
  rw [ev_oNe (h.okD hn a) (h.okD hn b), h.eqD]
end
/-! sorted -/
theorem leD_int (a b : Int) : leD (.int a) (.int b) = decide (a ≤ b) := by
  show (!PySem.W.dataLt (.int b) (.int a)) = _
  rw [PySem.W.dataLt_int]
  by_cases h : a ≤ b
  · rw [decide_eq_true h, decide_eq_false (by omega)]; rfl
  · rw [decide_eq_false h, decide_eq_true (by omega)]; rfl
theorem leD_pair (p q : Int × Int) : leD (dPair p) (dPair q) = leP p q := by
  have e : PySem.W.dataLt (toPy (dPair q)) (toPy (dPair p)) = if q.1 = p.1 then decide (q.2 < p.2) else decide (q.1 < p.1) := PySem.W.DatumOrd.lt_eq q p
  show (!PySem.W.dataLt (toPy (dPair q)) (toPy (dPair p))) = leP p q
  rw [e]
  unfold leP
  split
  · rename_i h
    by_cases h2 : q.2 < p.2
    · rw [decide_eq_true h2, decide_eq_false (by omega)]; rfl
    · rw [decide_eq_false h2, decide_eq_true (by omega)]; rfl
  · rename_i h
    by_cases h2 : q.1 < p.1
    · rw [decide_eq_true h2, decide_eq_false (by omega)]; rfl
    · rw [decide_eq_false h2, decide_eq_true (by omega)]; rfl
theorem ev_sortI (ns : List Int) (S : Sto) (Q : List D → Sto → Prop) : Ev (oSorted [.lst (ns.map .int)] S) Q = Q ((ns.mergeSort fun a b => decide (a ≤ b)).map .int) S := Ev.of (by
  show (if sortable (ns.map D.int) = true then Res.ok ((ns.map D.int).mergeSort leD) S else .stuck) = _
  rw [if_pos (by unfold sortable; rw [allInt_of]; rfl)]
  congr 1
  exact (PySem.W.sort_maps D.int fun a _ b _ => (leD_int a b).symm).symm)
theorem ev_sortP (ps : List (Int × Int)) (S : Sto) (Q : List D → Sto → Prop) : Ev (oSorted [.lst (ps.map dPair)] S) Q = Q ((ps.mergeSort leP).map dPair) S := Ev.of (by
  show (if sortable (ps.map dPair) = true then Res.ok ((ps.map dPair).mergeSort leD) S else .stuck) = _
  rw [if_pos (by unfold sortable; rw [allPair_of, Option.isSome_some, Bool.or_true])]
  congr 1
  exact (PySem.W.sort_maps dPair fun a _ b _ => (leD_pair a b).symm).symm)
end DL

/-! DL15: pairs, ranges, prefixes. -/
namespace DL
open PySem PySem.Spec PyProof.Rows L2
section
variable {env : Env} {S : Sto} {p : Int × Int} {k : Env → Prop} {Q : D → Sto → Prop} {QL : List D → Sto → Prop}
@[simp ↓] theorem wg_p {g h : GE} : withG (gTp 2 (gsCons g (gsCons h gsNil))) (dPair p) env k = withG g (.int p.1) env fun e => withG h (.int p.2) e k := wg_2
@[simp ↓] theorem ev_p0 : Ev (oIx (dPair p) (.int 0) S) Q = Q (.int p.1) S := Ev.of rfl
@[simp ↓] theorem ev_p1 : Ev (oIx (dPair p) (.int 1) S) Q = Q (.int p.2) S := Ev.of rfl
@[simp ↓] theorem ev_lenP : Ev (bLen [dPair p] S) Q = Q (.int 2) S := Ev.of rfl
@[simp ↓] theorem ev_maxPr : Ev (bMax [dPair p] S) Q = Q (.int (max p.1 p.2)) S := Ev.of rfl
@[simp ↓] theorem ev_minPr : Ev (bMin [dPair p] S) Q = Q (.int (min p.1 p.2)) S := Ev.of rfl
@[simp ↓] theorem wy_lP {k : Bool → Prop} : withTy "list" (dPair p) k = k false := rfl
@[simp ↓] theorem wy_tP {k : Bool → Prop} : withTy "tuple" (dPair p) k = k true := rfl
@[simp] theorem dPair_eq (a b : Int) : D.tup [.int a, .int b] = dPair (a, b) := rfl
theorem forGo_pre {γ : Type} {g : GE} {b : SS} {nx bk ct : Env → Sto → Prop} {rt : D → Sto → Prop} (enc : γ → D) (P : List γ → Env → Sto → Prop) : ∀ (xs pre : List γ) (h : ∀ pre' x post env S, pre ++ xs = pre' ++ x :: post → P pre' env S → withG g (enc x) env fun env1 => EvS (b env1 S) (P (pre' ++ [x])) rt nx (P (pre' ++ [x]))) (env : Env) (S : Sto), P pre env S →
    (∀ env S, P (pre ++ xs) env S → nx env S) → EvS (forGo g b (xs.map enc) env S) nx rt bk ct
  | [], pre, _, env, S, p, q => ⟨.nx env, S, rfl, q env S (by rw [List.append_nil]; exact p)⟩
  | x :: xs, pre, h, env, S, p, q => by
    obtain ⟨env1, e1, o, S2, e2, p2⟩ := (h pre x xs env S rfl p).out
    have ap : pre ++ x :: xs = (pre ++ [x]) ++ xs := by rw [List.append_assoc]; rfl
    have ih := fun env2 S2 p2 => forGo_pre (nx := nx) (bk := bk) (ct := ct) (rt := rt) enc P xs (pre ++ [x]) (fun pre' y post env S e => h pre' y post env S (by rw [ap]; exact e)) env2 S2 p2 (fun env S p => q env S (by rw [ap]; exact p))
    have e : forGo g b (enc x :: xs.map enc) env S = (b env1 S).bind fun o S => match o with
      | .nx env2 => forGo g b (xs.map enc) env2 S | .ct env2 => forGo g b (xs.map enc) env2 S | .bk env2 => .ok (.nx env2) S | .rt d => .ok (.rt d) S := by
      show (match g (enc x) env with | none => Res.stuck | some env1 => (b env1 S).bind fun o S => match o with
        | .nx env2 => forGo g b (xs.map enc) env2 S | .ct env2 => forGo g b (xs.map enc) env2 S | .bk env2 => .ok (.nx env2) S | .rt d => .ok (.rt d) S) = _
      rw [e1]
    show EvS (forGo g b (enc x :: xs.map enc) env S) nx rt bk ct
    rw [e, e2, Res.bind_eq]
    cases o with
    | nx env2 => exact ih env2 S2 p2
    | ct env2 => exact ih env2 S2 p2
    | bk env2 => exact ⟨_, _, rfl, p2⟩
    | rt d => exact ⟨_, _, rfl, p2⟩
/-- two clauses, nothing tested in the first, the store as it was -/
theorem compGo2_all {γ δ : Type} {g g1 : GE} {p1 : ET} {f : EE} {it1 : EL} {vs1 : List Nat} {env0 : Env} (enc : γ → D) (enc1 : δ → D) (inn : γ → List δ) (keep : γ → δ → Bool) (out : γ → δ → D) (xs : List γ)
    (h : ∀ x ∈ xs, withG g (enc x) env0 fun env => Ev (it1 env S) fun es S1 => es = (inn x).map enc1 ∧ S1 = S ∧ ∀ y ∈ inn x, withG g1 (enc1 y) (wipeE env vs1) fun env' => Ev (p1 env' S) fun b S2 => b = keep x y ∧ S2 = S ∧ (keep x y = true → Ev (f env' S) fun d S3 => d = out x y ∧ S3 = S)) :
    Ev (compGo2 g eYes it1 g1 p1 f vs1 env0 (xs.map enc) S) QL = QL (xs.flatMap fun x => ((inn x).filter (keep x)).map (out x)) S := by
  refine Ev.of ?_
  induction xs with
  | nil => rfl
  | cons x xs ih =>
    obtain ⟨env, e1, es, S1, e2, hes, hS, h3⟩ := (h x List.mem_cons_self).out
    rw [hes, hS] at e2
    have ih := ih fun y hy => h y (List.mem_cons_of_mem _ hy)
    have e4 : compGo g1 p1 f (wipeE env vs1) ((inn x).map enc1) S = .ok (((inn x).filter (keep x)).map (out x)) S := Ev.eq (by
      rw [compGo_pure enc1 (keep x) (out x) (inn x) h3]
      exact ⟨rfl, rfl⟩)
    show (match g (enc x) env0 with | none => Res.stuck | some env => (eYes env S).bind fun k S => if k = true then (it1 env S).bind fun es S => (compGo g1 p1 f (wipeE env vs1) es S).bind fun ys S => (compGo2 g eYes it1 g1 p1 f vs1 env0 (xs.map enc) S).bind fun zs S => .ok (ys ++ zs) S else compGo2 g eYes it1 g1 p1 f vs1 env0 (xs.map enc) S) = _
    rw [e1]
    show (it1 env S).bind _ = _
    rw [e2, Res.bind_eq, e4, Res.bind_eq, ih, Res.bind_eq, List.flatMap_cons]
end
/-! ranges -/
theorem enD_range (f : Nat → D) (n : Nat) : enD ((List.range n).map f) = (List.range n).map fun i => .tup [.int (i : Nat), f i] := by
  unfold enD
  refine List.ext_getElem? fun i => ?_
  rw [List.getElem?_mapIdx, List.getElem?_map, List.getElem?_map]
  by_cases hi : i < n
  · rw [List.getElem?_range hi]; rfl
  · rw [List.getElem?_eq_none (by rw [List.length_range]; omega)]; rfl
theorem zipD_range (f g : Nat → D) (n : Nat) : zipD ((List.range n).map f) ((List.range n).map g) = (List.range n).map fun i => .tup [f i, g i] := by
  unfold zipD
  refine List.ext_getElem? fun i => ?_
  rw [List.getElem?_zipWith, List.getElem?_map, List.getElem?_map, List.getElem?_map]
  by_cases hi : i < n
  · rw [List.getElem?_range hi]; rfl
  · rw [List.getElem?_eq_none (by rw [List.length_range]; omega)]; rfl
theorem cut_to (f : Nat → D) {n m : Nat} (h : m ≤ n) : cutD ((List.range n).map f) none (some (m : Nat)) = (List.range m).map f := by
  unfold cutD
  have hl : ((List.range n).map f).length = n := by rw [List.length_map, List.length_range]
  rw [hl, show HT.sIx n 0 none = 0 from HT.sIx_none n 0, show HT.sIx n n (some (m : Int)) = min m n from HT.sIx_nat n n m, Nat.min_eq_left h, List.drop_zero, Nat.sub_zero, ← List.map_take, List.take_range, Nat.min_eq_left h]
theorem cut_from_to (f : Nat → D) {n m : Nat} (h : m + 1 ≤ n) : cutD ((List.range n).map f) (some 1) (some ((m : Int) + 1)) = (List.range m).map fun i => f (i + 1) := by
  unfold cutD
  have hl : ((List.range n).map f).length = n := by rw [List.length_map, List.length_range]
  have e1 : HT.sIx n 0 (some 1) = 1 := by
    rw [show HT.sIx n 0 (some 1) = min 1 n from HT.sIx_nat n 0 1]
    omega
  have e2 : HT.sIx n n (some ((m : Int) + 1)) = m + 1 := by
    rw [show ((m : Int) + 1) = ((m + 1 : Nat) : Int) by omega, show HT.sIx n n (some ((m + 1 : Nat) : Int)) = min (m + 1) n from HT.sIx_nat n n (m + 1)]
    omega
  rw [hl, e1, e2]
  refine List.ext_getElem? fun i => ?_
  rw [List.getElem?_take, List.getElem?_drop, List.getElem?_map, List.getElem?_map]
  by_cases hi : i < m
  · rw [if_pos (by omega), List.getElem?_range (by omega), List.getElem?_range hi, Nat.add_comm 1 i]; rfl
  · rw [if_neg (by omega), List.getElem?_eq_none (by rw [List.length_range]; omega)]; rfl
theorem filter_range (n k : Nat) : (List.range n).filter (fun c => decide (c < k)) = List.range (min n k) := by
  induction n with
  | zero => rw [Nat.zero_min]; rfl
  | succ n ih =>
    rw [List.range_succ, List.filter_append, ih, List.filter_cons, List.filter_nil]
    by_cases h : n < k
    · rw [if_pos (by rw [decide_eq_true_eq]; exact h), Nat.min_eq_left (by omega), Nat.min_eq_left (by omega), List.range_succ]
    · rw [if_neg (by rw [decide_eq_true_eq]; exact h), Nat.min_eq_right (by omega), Nat.min_eq_right (by omega), List.append_nil]
@[simp ↓] theorem ev_lastA {xs : List D} {x : D} {S : Sto} {Q : D → Sto → Prop} : Ev (oIx (.lst (xs ++ [x])) (.int (-1)) S) Q = Q x S := ev_ixL (atI_last _ _)
@[simp ↓] theorem ev_lastT {xs : List D} {x : D} {S : Sto} {Q : D → Sto → Prop} : Ev (oIx (.tup (xs ++ [x])) (.int (-1)) S) Q = Q x S := ev_ixT (atI_last _ _)
theorem ev_last {γ : Type} (e : γ → D) (xs : List γ) (x : γ) {S : Sto} {Q : D → Sto → Prop} : Ev (oIx (.lst ((xs ++ [x]).map e)) (.int (-1)) S) Q = Q (e x) S := ev_ixL (by rw [List.map_append]; exact atI_last _ _)
end DL

namespace DL
open PySem PySem.Spec PyProof.Rows L2
def b_is_integer : SS := (sRet (eAnd (eIsi "int" (eVb 0)) (eNot (eIsi "bool" (eVb 0)))))
def φ_is_integer : List D → Sto → Res D := runD 1 b_is_integer
theorem e_is_integer {x0 : D} {S : Sto} {Q : D → Sto → Prop} : Ev (φ_is_integer [x0] S) Q = EvS (b_is_integer [some (.sh x0)] S) (fun _ S => Q .non S) Q (fun _ _ => False) (fun _ _ => False) := ev_runD
def b_is_between : SS := (sRet (eAnd (eCall φ_is_integer (eCons (eV 0) eNil)) (eChain oLe oLe (eVb 1) (eVb 0) (eVb 2))))
def φ_is_between : List D → Sto → Res D := runD 3 b_is_between
theorem e_is_between {x0 x1 x2 : D} {S : Sto} {Q : D → Sto → Prop} : Ev (φ_is_between [x0, x1, x2] S) Q = EvS (b_is_between [some (.sh x0), some (.sh x1), some (.sh x2)] S) (fun _ S => Q .non S) Q (fun _ _ => False) (fun _ _ => False) := ev_runD
def b_is_listed : SS := (sRet (eIsi2 "list" "tuple" (eVb 0)))
def φ_is_listed : List D → Sto → Res D := runD 1 b_is_listed
theorem e_is_listed {x0 : D} {S : Sto} {Q : D → Sto → Prop} : Ev (φ_is_listed [x0] S) Q = EvS (b_is_listed [some (.sh x0)] S) (fun _ S => Q .non S) Q (fun _ _ => False) (fun _ _ => False) := ev_runD
def b_cut_of : SS := (sSeq (sNew 1 (eDsp eNil))
    (sSeq (sFor (iD (eLst (eBltN oSorted (eCons (eLst (eComp (iD (eV 0)) (gTp 2 (gsCons (gN 2) (gsCons (gN 3) gsNil))) eYes (eTup (eCons (eBlt bMax2 (eCons (eVb 2) (eCons (eVb 3) eNil))) (eCons (eV 3) eNil))) [2, 3])) eNil)))) (gTp 2 (gsCons (gN 2) (gsCons (gN 3) gsNil))) (sIf (eOrT (eTst (eBin oEq (eVb 1) (eLst (eDsp eNil)))) (eTst (eBin oLt (eVb 3) (eBin oIx (eBin oIx (eVb 1) (eNeg (eC (.int 1)))) (eC (.int 1)))))) (sApp 1 (eTup (eCons (eV 2) (eCons (eV 3) eNil)))) sNil))
    (sRet (eBlt bTuple (eCons (eVb 1) eNil)))))
def φ_cut_of : List D → Sto → Res D := runD 4 b_cut_of
theorem e_cut_of {x0 : D} {S : Sto} {Q : D → Sto → Prop} : Ev (φ_cut_of [x0] S) Q = EvS (b_cut_of [some (.sh x0), none, none, none] S) (fun _ S => Q .non S) Q (fun _ _ => False) (fun _ _ => False) := ev_runD
def b_number_in : SS := (sSeq (sSet 2 (eLst (eComp (iD (eV 0)) (gTp 2 (gsCons (gN 3) (gsCons (gN 4) gsNil))) (eTst (eBin oLe (eVb 3) (eVb 1))) (eV 4) [3, 4])))
    (sRet (eIf (eTru (eVb 2)) (eBin oIx (eVb 2) (eNeg (eC (.int 1)))) (eC .non))))
def φ_number_in : List D → Sto → Res D := runD 5 b_number_in
theorem e_number_in {x0 x1 : D} {S : Sto} {Q : D → Sto → Prop} : Ev (φ_number_in [x0, x1] S) Q = EvS (b_number_in [some (.sh x0), some (.sh x1), none, none, none] S) (fun _ S => Q .non S) Q (fun _ _ => False) (fun _ _ => False) := ev_runD
def b_least_in : SS := (sRet (eMinDef (fun n ns => ns.foldl min n) (eLst (eComp (iD (eV 0)) (gTp 2 (gsCons (gN 2) (gsCons (gN 3) gsNil))) eYes (eBlt bMax2 (eCons (eVb 2) (eCons (eBin oAdd (eVb 3) (eVb 1)) eNil))) [2, 3])) (eC .non)))
def φ_least_in : List D → Sto → Res D := runD 4 b_least_in
theorem e_least_in {x0 x1 : D} {S : Sto} {Q : D → Sto → Prop} : Ev (φ_least_in [x0, x1] S) Q = EvS (b_least_in [some (.sh x0), some (.sh x1), none, none] S) (fun _ S => Q .non S) Q (fun _ _ => False) (fun _ _ => False) := ev_runD
def b_quiet_in : SS := (sRet (eCall φ_cut_of (eCons (eLst (eComp (iD (eV 0)) (gTp 2 (gsCons (gN 1) (gsCons (gN 2) gsNil))) eYes (eTup (eCons (eV 1) (eCons (eBin oAdd (eVb 2) (eC (.int 1))) eNil))) [1, 2])) eNil)))
def φ_quiet_in : List D → Sto → Res D := runD 3 b_quiet_in
theorem e_quiet_in {x0 : D} {S : Sto} {Q : D → Sto → Prop} : Ev (φ_quiet_in [x0] S) Q = EvS (b_quiet_in [some (.sh x0), none, none] S) (fun _ S => Q .non S) Q (fun _ _ => False) (fun _ _ => False) := ev_runD
def b_least_among : SS := (sRet (eCall φ_cut_of (eCons (eLst (eComp2 (iD (eV 0)) (gN 1) eYes (iD (eV 1)) (gN 2) eYes (eV 2) [1, 2] [2])) eNil)))
def φ_least_among : List D → Sto → Res D := runD 3 b_least_among
theorem e_least_among {x0 : D} {S : Sto} {Q : D → Sto → Prop} : Ev (φ_least_among [x0] S) Q = EvS (b_least_among [some (.sh x0), none, none] S) (fun _ S => Q .non S) Q (fun _ _ => False) (fun _ _ => False) := ev_runD
def b_greatest_among : SS := (sSeq (sIf (eOrT (eTst (eBin oEq (eVb 0) (eLst (eDsp eNil)))) (eTru (eBlt bAny (eCons (eLst (eComp (iD (eV 0)) (gN 1) eYes (eBin oEq (eVb 1) (eTup eNil)) [1])) eNil)))) (sRet (eTup eNil)) sNil)
    (sSeq (sSet 2 (eBlt bMax (eCons (eLst (eComp (iD (eV 0)) (gN 1) eYes (eBin oIx (eBin oIx (eVb 1) (eC (.int 0))) (eC (.int 0))) [1])) eNil)))
    (sSeq (sSet 3 (eLst (eBltN oSorted (eCons (eLst (eComp2 (iD (eV 0)) (gN 1) eYes (iD (eV 1)) (gTp 2 (gsCons (gN 4) (gsCons (gN 5) gsNil))) (eTst (eBin oGe (eVb 4) (eVb 2))) (eV 4) [1, 4, 5] [4, 5])) eNil))))
    (sRet (eCall φ_cut_of (eCons (eLst (eComp (iD (eV 3)) (gN 4) eYes (eTup (eCons (eV 4) (eCons (eBlt bMax (eCons (eLst (eComp (iD (eV 0)) (gN 1) eYes (eCall φ_number_in (eCons (eV 1) (eCons (eV 4) eNil))) [1])) eNil)) eNil))) [4])) eNil))))))
def φ_greatest_among : List D → Sto → Res D := runD 6 b_greatest_among
theorem e_greatest_among {x0 : D} {S : Sto} {Q : D → Sto → Prop} : Ev (φ_greatest_among [x0] S) Q = EvS (b_greatest_among [some (.sh x0), none, none, none, none, none] S) (fun _ S => Q .non S) Q (fun _ _ => False) (fun _ _ => False) := ev_runD
def b_is_pair_of : SS := (sSeq (sIf (eOrT (eNotT (eTru (eCall φ_is_listed (eCons (eV 0) eNil)))) (eTst (eBin oNe (eBlt bLen (eCons (eVb 0) eNil)) (eC (.int 2))))) (sRet (eC (.bl false))) sNil)
    (sRet (eAnd (eCall φ_is_between (eCons (eBin oIx (eVb 0) (eC (.int 0))) (eCons (eC (.int 1)) (eCons (eC (.int 1000000)) eNil)))) (eCall φ_is_between (eCons (eBin oIx (eVb 0) (eC (.int 1))) (eCons (eV 1) (eCons (eV 2) eNil)))))))
def φ_is_pair_of : List D → Sto → Res D := runD 3 b_is_pair_of
theorem e_is_pair_of {x0 x1 x2 : D} {S : Sto} {Q : D → Sto → Prop} : Ev (φ_is_pair_of [x0, x1, x2] S) Q = EvS (b_is_pair_of [some (.sh x0), some (.sh x1), some (.sh x2)] S) (fun _ S => Q .non S) Q (fun _ _ => False) (fun _ _ => False) := ev_runD
def b_fixed_stair : SS := (sRet (eBlt bTuple (eCons (eLst (eComp (iD (eV 0)) (gN 1) eYes (eTup (eCons (eBin oIx (eVb 1) (eC (.int 0))) (eCons (eBin oIx (eVb 1) (eC (.int 1))) eNil))) [1])) eNil)))
def φ_fixed_stair : List D → Sto → Res D := runD 2 b_fixed_stair
theorem e_fixed_stair {x0 : D} {S : Sto} {Q : D → Sto → Prop} : Ev (φ_fixed_stair [x0] S) Q = EvS (b_fixed_stair [some (.sh x0), none] S) (fun _ S => Q .non S) Q (fun _ _ => False) (fun _ _ => False) := ev_runD
def b_is_stair : SS := (sSeq (sIf (eOrT (eNotT (eTru (eCall φ_is_listed (eCons (eV 0) eNil)))) (eNotT (eTru (eBlt bAll (eCons (eLst (eComp (iD (eV 0)) (gN 1) eYes (eCall φ_is_pair_of (eCons (eV 1) (eCons (eC (.int 0)) (eCons (eC (.int 1000000)) eNil)))) [1])) eNil))))) (sRet (eC (.bl false))) sNil)
    (sSeq (sIf (eNotT (eTru (eBlt bAll (eCons (eLst (eComp (iD (eV 0)) (gTp 2 (gsCons (gN 2) (gsCons (gN 3) gsNil))) eYes (eBin oLe (eVb 3) (eVb 2)) [2, 3])) eNil)))) (sRet (eC (.bl false))) sNil)
    (sRet (eBlt bAll (eCons (eLst (eComp (iZi (eV 0) (eSl (eVb 0) (oSo (eC (.int 1))) oNo)) (gTp 2 (gsCons (gN 4) (gsCons (gN 5) gsNil))) eYes (eAnd (eBin oLt (eBin oIx (eVb 4) (eC (.int 0))) (eBin oIx (eVb 5) (eC (.int 0)))) (eBin oGt (eBin oIx (eVb 4) (eC (.int 1))) (eBin oIx (eVb 5) (eC (.int 1))))) [4, 5])) eNil)))))
def φ_is_stair : List D → Sto → Res D := runD 6 b_is_stair
theorem e_is_stair {x0 : D} {S : Sto} {Q : D → Sto → Prop} : Ev (φ_is_stair [x0] S) Q = EvS (b_is_stair [some (.sh x0), none, none, none, none, none] S) (fun _ S => Q .non S) Q (fun _ _ => False) (fun _ _ => False) := ev_runD
def b_need_stair : SS := (sSeq (sIf (eNotT (eTru (eCall φ_is_stair (eCons (eV 0) eNil)))) sStuck sNil)
    (sRet (eCall φ_fixed_stair (eCons (eV 0) eNil))))
def φ_need_stair : List D → Sto → Res D := runD 1 b_need_stair
theorem e_need_stair {x0 : D} {S : Sto} {Q : D → Sto → Prop} : Ev (φ_need_stair [x0] S) Q = EvS (b_need_stair [some (.sh x0)] S) (fun _ S => Q .non S) Q (fun _ _ => False) (fun _ _ => False) := ev_runD
def b_need_stairs : SS := (sSeq (sIf (eOrT (eNotT (eTru (eCall φ_is_listed (eCons (eV 0) eNil)))) (eNotT (eTru (eBlt bAll (eCons (eLst (eComp (iD (eV 0)) (gN 1) eYes (eCall φ_is_stair (eCons (eV 1) eNil)) [1])) eNil))))) sStuck sNil)
    (sRet (eLst (eComp (iD (eV 0)) (gN 1) eYes (eCall φ_fixed_stair (eCons (eV 1) eNil)) [1]))))
def φ_need_stairs : List D → Sto → Res D := runD 2 b_need_stairs
theorem e_need_stairs {x0 : D} {S : Sto} {Q : D → Sto → Prop} : Ev (φ_need_stairs [x0] S) Q = EvS (b_need_stairs [some (.sh x0), none] S) (fun _ S => Q .non S) Q (fun _ _ => False) (fun _ _ => False) := ev_runD
def b_need_count : SS := (sIf (eNotT (eTru (eCall φ_is_between (eCons (eV 0) (eCons (eC (.int 0)) (eCons (eV 1) eNil)))))) sStuck sNil)
def φ_need_count : List D → Sto → Res D := runD 2 b_need_count
theorem e_need_count {x0 x1 : D} {S : Sto} {Q : D → Sto → Prop} : Ev (φ_need_count [x0, x1] S) Q = EvS (b_need_count [some (.sh x0), some (.sh x1)] S) (fun _ S => Q .non S) Q (fun _ _ => False) (fun _ _ => False) := ev_runD
def b_need_limit : SS := (sIf (eNotT (eTru (eCall φ_is_between (eCons (eV 0) (eCons (eC (.int 1)) (eCons (eC (.int 1000000)) eNil)))))) sStuck sNil)
def φ_need_limit : List D → Sto → Res D := runD 1 b_need_limit
theorem e_need_limit {x0 : D} {S : Sto} {Q : D → Sto → Prop} : Ev (φ_need_limit [x0] S) Q = EvS (b_need_limit [some (.sh x0)] S) (fun _ S => Q .non S) Q (fun _ _ => False) (fun _ _ => False) := ev_runD
def b_number_at : SS := (sSeq (sSet 2 (eCall φ_need_stair (eCons (eV 0) eNil)))
    (sSeq (sDrop (eCall φ_need_limit (eCons (eV 1) eNil)))
    (sRet (eCall φ_number_in (eCons (eV 2) (eCons (eV 1) eNil))))))
def φ_number_at : List D → Sto → Res D := runD 3 b_number_at
theorem e_number_at {x0 x1 : D} {S : Sto} {Q : D → Sto → Prop} : Ev (φ_number_at [x0, x1] S) Q = EvS (b_number_at [some (.sh x0), some (.sh x1), none] S) (fun _ S => Q .non S) Q (fun _ _ => False) (fun _ _ => False) := ev_runD
def b_least_limit : SS := (sSeq (sSet 2 (eCall φ_need_stair (eCons (eV 0) eNil)))
    (sSeq (sDrop (eCall φ_need_count (eCons (eV 1) (eCons (eC (.int 1000000)) eNil))))
    (sRet (eCall φ_least_in (eCons (eV 2) (eCons (eV 1) eNil))))))
def φ_least_limit : List D → Sto → Res D := runD 3 b_least_limit
theorem e_least_limit {x0 x1 : D} {S : Sto} {Q : D → Sto → Prop} : Ev (φ_least_limit [x0, x1] S) Q = EvS (b_least_limit [some (.sh x0), some (.sh x1), none] S) (fun _ S => Q .non S) Q (fun _ _ => False) (fun _ _ => False) := ev_runD
def b_quiet_of : SS := (sRet (eCall φ_quiet_in (eCons (eCall φ_need_stair (eCons (eV 0) eNil)) eNil)))
def φ_quiet_of : List D → Sto → Res D := runD 1 b_quiet_of
theorem e_quiet_of {x0 : D} {S : Sto} {Q : D → Sto → Prop} : Ev (φ_quiet_of [x0] S) Q = EvS (b_quiet_of [some (.sh x0)] S) (fun _ S => Q .non S) Q (fun _ _ => False) (fun _ _ => False) := ev_runD
def b_least_of : SS := (sRet (eCall φ_least_among (eCons (eCall φ_need_stairs (eCons (eV 0) eNil)) eNil)))
def φ_least_of : List D → Sto → Res D := runD 1 b_least_of
theorem e_least_of {x0 : D} {S : Sto} {Q : D → Sto → Prop} : Ev (φ_least_of [x0] S) Q = EvS (b_least_of [some (.sh x0)] S) (fun _ S => Q .non S) Q (fun _ _ => False) (fun _ _ => False) := ev_runD
def b_greatest_of : SS := (sRet (eCall φ_greatest_among (eCons (eCall φ_need_stairs (eCons (eV 0) eNil)) eNil)))
def φ_greatest_of : List D → Sto → Res D := runD 1 b_greatest_of
theorem e_greatest_of {x0 : D} {S : Sto} {Q : D → Sto → Prop} : Ev (φ_greatest_of [x0] S) Q = EvS (b_greatest_of [some (.sh x0)] S) (fun _ S => Q .non S) Q (fun _ _ => False) (fun _ _ => False) := ev_runD
def b__law_pen : SS := (sRet (eMu (eDsp (eCons (eLst (eComp (iD (eSl (eVb 0) oNo (oSo (eC (.int 63))))) (gN 1) eYes (eBlt bInt (eCons (eVb 1) eNil)) [1])) (eCons (eC (.int 0)) (eCons (eC (.int 0)) eNil))))))
def φ__law_pen : List D → Sto → Res D := runD 2 b__law_pen
theorem e__law_pen {x0 : D} {S : Sto} {Q : D → Sto → Prop} : Ev (φ__law_pen [x0] S) Q = EvS (b__law_pen [some (.sh x0), none] S) (fun _ S => Q .non S) Q (fun _ _ => False) (fun _ _ => False) := ev_runD
def b__law_draw : SS := (sSeq (sIf (eTst (eBin oGt (eBin oIx (eVb 0) (eC (.int 2))) (eC (.int 0)))) (sSeq (sSet 2 (eBlt bInt (eCons (eBin oIx (eVb 0) (eC (.int 2))) eNil)))
    (sSeq (sStore (eBin oFdiv (eVb 2) (eVb 1)) (eV 0) (eC (.int 2)))
    (sRet (eBin oMod (eBlt bInt (eCons (eVb 2) eNil)) (eVb 1))))) sNil)
    (sSeq (sSet 3 (eBin oIx (eVb 0) (eC (.int 1))))
    (sSeq (sStore (eBin oAdd (eVb 3) (eC (.int 1))) (eV 0) (eC (.int 1)))
    (sSeq (sSet 4 (eBin oAdd (eBin oMul (eC (.int 57793)) (eVb 3)) (eC (.int 31013))))
    (sSeq (sIf (eTst (eBin oNe (eBin oIx (eVb 0) (eC (.int 0))) (eLst (eDsp eNil)))) (sSet 4 (eBin oIx (eBin oIx (eVb 0) (eC (.int 0))) (eBin oMod (eBlt bInt (eCons (eVb 3) eNil)) (eBlt bLen (eCons (eBin oIx (eVb 0) (eC (.int 0))) eNil))))) sNil)
    (sSeq (sIf (eAndT (eTst (eBin oLt (eVb 3) (eBlt bLen (eCons (eBin oIx (eVb 0) (eC (.int 0))) eNil)))) (eTst (eBin oGe (eBlt bAbs (eCons (eVb 4) eNil)) (eBin oPow (eC (.int 10)) (eC (.int 18)))))) (sSeq (sSet 2 (eBin oAdd (eBin oMul (eC (.int 2)) (eBin oSub (eBlt bAbs (eCons (eVb 4) eNil)) (eBin oPow (eC (.int 10)) (eC (.int 18))))) (eBlt bInt (eCons (eBin oLt (eVb 4) (eC (.int 0))) eNil))))
    (sSeq (sStore (eBin oFdiv (eBlt bInt (eCons (eVb 2) eNil)) (eVb 1)) (eV 0) (eC (.int 2)))
    (sRet (eBin oMod (eBlt bInt (eCons (eVb 2) eNil)) (eVb 1))))) sNil)
    (sSeq (sSet 5 (eBin oMod (eBlt bInt (eCons (eBin oPow (eBin oAdd (eBin oAdd (eBin oMod (eBlt bInt (eCons (eVb 4) eNil)) (eC (.int 2147483549))) (eBin oMul (eC (.int 84653)) (eVb 3))) (eC (.int 2203))) (eC (.int 5))) eNil)) (eC (.int 2147483563))))
    (sSeq (sSet 5 (eBin oMod (eBlt bInt (eCons (eBin oPow (eBin oAdd (eBin oAdd (eBin oMul (eVb 5) (eBin oAdd (eBin oMul (eC (.int 2)) (eVb 3)) (eC (.int 2203)))) (eBin oMul (eBin oMul (eC (.int 57793)) (eVb 3)) (eVb 3))) (eC (.int 84653))) (eC (.int 3))) eNil)) (eC (.int 2147483587))))
    (sRet (eBin oMod (eBlt bInt (eCons (eBin oFdiv (eVb 5) (eC (.int 64))) eNil)) (eVb 1)))))))))))
def φ__law_draw : List D → Sto → Res D := runD 6 b__law_draw
theorem e__law_draw {x0 x1 : D} {S : Sto} {Q : D → Sto → Prop} : Ev (φ__law_draw [x0, x1] S) Q = EvS (b__law_draw [some (.sh x0), some (.sh x1), none, none, none, none] S) (fun _ S => Q .non S) Q (fun _ _ => False) (fun _ _ => False) := ev_runD
def b__law_pick : SS := (sRet (eBin oIx (eVb 1) (eCall φ__law_draw (eCons (eV 0) (eCons (eBlt bLen (eCons (eVb 1) eNil)) eNil)))))
def φ__law_pick : List D → Sto → Res D := runD 2 b__law_pick
theorem e__law_pick {x0 x1 : D} {S : Sto} {Q : D → Sto → Prop} : Ev (φ__law_pick [x0, x1] S) Q = EvS (b__law_pick [some (.sh x0), some (.sh x1)] S) (fun _ S => Q .non S) Q (fun _ _ => False) (fun _ _ => False) := ev_runD
def b__law_cut : SS := (sSeq (sSet 1 (eLst (eBltN oSorted (eCons (eLst (eComp (iD (eV 0)) (gTp 2 (gsCons (gN 2) (gsCons (gN 3) gsNil))) eYes (eTup (eCons (eBlt bMax2 (eCons (eVb 2) (eCons (eVb 3) eNil))) (eCons (eV 3) eNil))) [2, 3])) eNil))))
    (sSeq (sNew 4 (eDsp eNil))
    (sSeq (sFor (iD (eV 1)) (gTp 2 (gsCons (gN 2) (gsCons (gN 3) gsNil))) (sIf (eOrT (eTst (eBin oEq (eVb 4) (eLst (eDsp eNil)))) (eTst (eBin oLt (eVb 3) (eBin oIx (eBin oIx (eVb 4) (eNeg (eC (.int 1)))) (eC (.int 1)))))) (sSeq (sIf (eAndT (eTst (eBin oNe (eVb 4) (eLst (eDsp eNil)))) (eTst (eBin oEq (eBin oIx (eBin oIx (eVb 4) (eNeg (eC (.int 1)))) (eC (.int 0))) (eVb 2)))) (sPop 4) sNil)
    (sApp 4 (eTup (eCons (eV 2) (eCons (eV 3) eNil))))) sNil))
    (sRet (eBlt bTuple (eCons (eVb 4) eNil))))))
def φ__law_cut : List D → Sto → Res D := runD 5 b__law_cut
theorem e__law_cut {x0 : D} {S : Sto} {Q : D → Sto → Prop} : Ev (φ__law_cut [x0] S) Q = EvS (b__law_cut [some (.sh x0), none, none, none, none] S) (fun _ S => Q .non S) Q (fun _ _ => False) (fun _ _ => False) := ev_runD
def b__law_by_limits : SS := (sSeq (sNew 2 (eDsp eNil))
    (sSeq (sFor (iRg2 (eC (.int 1)) (eBin oAdd (eVb 1) (eC (.int 1)))) (gN 3) (sSeq (sSet 4 (eLst (eComp (iD (eV 0)) (gTp 2 (gsCons (gN 5) (gsCons (gN 6) gsNil))) (eAndT (eTst (eBin oLe (eVb 5) (eVb 3))) (eTst (eBin oLe (eVb 6) (eVb 3)))) (eV 6) [5, 6])))
    (sApp 2 (eIf (eTst (eBin oNe (eVb 4) (eLst (eDsp eNil)))) (eBlt bMin (eCons (eVb 4) eNil)) (eC .non)))))
    (sFrz 2 (sRet (eV 2)))))
def φ__law_by_limits : List D → Sto → Res D := runD 7 b__law_by_limits
theorem e__law_by_limits {x0 x1 : D} {S : Sto} {Q : D → Sto → Prop} : Ev (φ__law_by_limits [x0, x1] S) Q = EvS (b__law_by_limits [some (.sh x0), some (.sh x1), none, none, none, none, none] S) (fun _ S => Q .non S) Q (fun _ _ => False) (fun _ _ => False) := ev_runD
def b__law_of_limits : SS := (sSeq (sNew 1 (eDsp eNil))
    (sSeq (sFor (iD (eLst (eListEn (eLst (eCatN (eDsp (eCons (eC .non) eNil)) (eBltN bList (eCons (eVb 0) eNil))))))) (gTp 2 (gsCons (gN 2) (gsCons (gN 3) gsNil))) (sIf (eAndT (eTst (eBin oIsNot (eVb 3) (eC .non))) (eAndT (eTst (eBin oLe (eVb 3) (eVb 2))) (eOrT (eTst (eBin oEq (eVb 1) (eLst (eDsp eNil)))) (eTst (eBin oLt (eVb 3) (eBin oIx (eBin oIx (eVb 1) (eNeg (eC (.int 1)))) (eC (.int 1)))))))) (sApp 1 (eTup (eCons (eV 2) (eCons (eV 3) eNil)))) sNil))
    (sRet (eBlt bTuple (eCons (eVb 1) eNil)))))
def φ__law_of_limits : List D → Sto → Res D := runD 4 b__law_of_limits
theorem e__law_of_limits {x0 : D} {S : Sto} {Q : D → Sto → Prop} : Ev (φ__law_of_limits [x0] S) Q = EvS (b__law_of_limits [some (.sh x0), none, none, none] S) (fun _ S => Q .non S) Q (fun _ _ => False) (fun _ _ => False) := ev_runD
def b__law_pairs : SS := (sRet (eLst (eComp (iRg1 (eCall φ__law_pick (eCons (eV 0) (eCons (eLst (eDsp (eCons (eC (.int 0)) (eCons (eC (.int 1)) (eCons (eC (.int 1)) (eCons (eC (.int 2)) (eCons (eC (.int 3)) (eCons (eC (.int 4)) (eCons (eC (.int 5)) eNil))))))))) eNil)))) (gN 2) eYes (eTup (eCons (eBin oAdd (eC (.int 1)) (eCall φ__law_draw (eCons (eV 0) (eCons (eV 1) eNil)))) (eCons (eCall φ__law_draw (eCons (eV 0) (eCons (eBin oAdd (eVb 1) (eC (.int 1))) eNil))) eNil))) [2])))
def φ__law_pairs : List D → Sto → Res D := runD 3 b__law_pairs
theorem e__law_pairs {x0 x1 : D} {S : Sto} {Q : D → Sto → Prop} : Ev (φ__law_pairs [x0, x1] S) Q = EvS (b__law_pairs [some (.sh x0), some (.sh x1), none] S) (fun _ S => Q .non S) Q (fun _ _ => False) (fun _ _ => False) := ev_runD
def b__law_most : SS := (sRet (eBin oAdd (eC (.int 3)) (eBlt bMax (eCons (eLst (eCatN (eDsp (eCons (eC (.int 0)) eNil)) (eComp (iD (eV 0)) (gN 1) (eTst (eBin oGt (eBlt bLen (eCons (eVb 1) eNil)) (eC (.int 0)))) (eBlt bMax (eCons (eLst (eComp (iD (eV 1)) (gN 2) eYes (eBlt bMax (eCons (eVb 2) eNil)) [2])) eNil)) [1]))) eNil))))
def φ__law_most : List D → Sto → Res D := runD 3 b__law_most
theorem e__law_most {x0 : D} {S : Sto} {Q : D → Sto → Prop} : Ev (φ__law_most [x0] S) Q = EvS (b__law_most [some (.sh x0), none, none] S) (fun _ S => Q .non S) Q (fun _ _ => False) (fun _ _ => False) := ev_runD
def b__law_stair : SS := (sSeq (sSet 2 (eCall φ__law_pairs (eCons (eV 0) (eCons (eV 1) eNil))))
    (sRet (eCall φ__law_of_limits (eCons (eCall φ__law_by_limits (eCons (eV 2) (eCons (eCall φ__law_most (eCons (eLst (eDsp (eCons (eV 2) eNil))) eNil)) eNil))) eNil))))
def φ__law_stair : List D → Sto → Res D := runD 3 b__law_stair
theorem e__law_stair {x0 x1 : D} {S : Sto} {Q : D → Sto → Prop} : Ev (φ__law_stair [x0, x1] S) Q = EvS (b__law_stair [some (.sh x0), some (.sh x1), none] S) (fun _ S => Q .non S) Q (fun _ _ => False) (fun _ _ => False) := ev_runD
def b__law_some_stair : SS := (sSeq (sSet 2 (eCall φ__law_stair (eCons (eV 0) (eCons (eV 1) eNil))))
    (sRet (eIf (eTst (eBin oNe (eVb 2) (eTup eNil))) (eV 2) (eTup (eCons (eTup (eCons (eBin oAdd (eC (.int 1)) (eCall φ__law_draw (eCons (eV 0) (eCons (eV 1) eNil)))) (eCons (eC (.int 1)) eNil))) eNil)))))
def φ__law_some_stair : List D → Sto → Res D := runD 3 b__law_some_stair
theorem e__law_some_stair {x0 x1 : D} {S : Sto} {Q : D → Sto → Prop} : Ev (φ__law_some_stair [x0, x1] S) Q = EvS (b__law_some_stair [some (.sh x0), some (.sh x1), none] S) (fun _ S => Q .non S) Q (fun _ _ => False) (fun _ _ => False) := ev_runD
def b_law : SS := (sSeq (sSet 1 (eCall φ__law_pen (eCons (eV 0) eNil)))
    (sSeq (sFor (iRg1 (eC (.int 14))) (gN 2) (sSeq (sSet 3 (eCall φ__law_some_stair (eCons (eV 1) (eCons (eC (.int 9)) eNil))))
    (sSeq (sSet 4 (eCall φ__law_some_stair (eCons (eV 1) (eCons (eC (.int 9)) eNil))))
    (sSeq (sIf (eTst (eBin oEq (eCall φ__law_draw (eCons (eV 1) (eCons (eC (.int 2)) eNil))) (eC (.int 0)))) (sSeq (sSet 5 (eCall φ__law_draw (eCons (eV 1) (eCons (eBlt bLen (eCons (eVb 3) eNil)) eNil))))
    (sSet 4 (eCall φ__law_cut (eCons (eLst (eComp (iEn (eV 3)) (gTp 2 (gsCons (gN 6) (gsCons (gN 7) gsNil))) eYes (eIf (eTst (eBin oNe (eVb 6) (eVb 5))) (eV 7) (eTup (eCons (eBin oAdd (eBin oIx (eVb 7) (eC (.int 0))) (eCall φ__law_draw (eCons (eV 1) (eCons (eC (.int 2)) eNil)))) (eCons (eBlt bMax2 (eCons (eC (.int 0)) (eCons (eBin oSub (eBin oIx (eVb 7) (eC (.int 1))) (eCall φ__law_draw (eCons (eV 1) (eCons (eC (.int 2)) eNil)))) eNil))) eNil)))) [6, 7])) eNil)))) sNil)
    (sSeq (sSet 8 (eCall φ__law_most (eCons (eLst (eDsp (eCons (eV 3) (eCons (eV 4) eNil)))) eNil)))
    (sSeq (sAsgT (gTp 2 (gsCons (gN 9) (gsCons (gN 10) gsNil))) (eLst (eComp (iD (eTup (eCons (eV 3) (eCons (eV 4) eNil)))) (gN 11) eYes (eLst (eComp (iRg1 (eBin oMul (eC (.int 2)) (eVb 8))) (gN 12) eYes (eCall φ_least_limit (eCons (eV 11) (eCons (eV 12) eNil))) [12])) [11])))
    (sSeq (sIf (eOrT (eTst (eBin oNe (eBin oEq (eVb 9) (eVb 10)) (eBin oEq (eVb 3) (eVb 4)))) (eOrT (eTst (eBin oNe (eLst (eBltN oSorted (eCons (eVb 9) eNil))) (eVb 9))) (eTst (eBin oNe (eBin oIx (eVb 9) (eC (.int 0))) (eBin oIx (eBin oIx (eVb 3) (eC (.int 0))) (eC (.int 0))))))) (sRet (eC (.bl false))) sNil)
    (sSeq (sFor (iRg2 (eC (.int 1)) (eV 8)) (gN 13) (sSeq (sSet 14 (eLst (eComp (iEn (eV 9)) (gTp 2 (gsCons (gN 12) (gsCons (gN 15) gsNil))) (eTst (eBin oLe (eVb 15) (eVb 13))) (eV 12) [12, 15])))
    (sSeq (sSet 16 (eIf (eTst (eBin oNe (eVb 14) (eLst (eDsp eNil)))) (eBin oSub (eVb 13) (eBin oIx (eVb 14) (eNeg (eC (.int 1))))) (eC .non)))
    (sIf (eTst (eBin oNe (eCall φ_number_at (eCons (eV 3) (eCons (eV 13) eNil))) (eVb 16))) (sRet (eC (.bl false))) sNil))))
    (sSeq (sIf (eTst (eBin oNe (eLst (eComp (iRg1 (eV 8)) (gN 12) eYes (eCall φ_least_limit (eCons (eCall φ_quiet_of (eCons (eV 3) eNil)) (eCons (eV 12) eNil))) [12])) (eSl (eVb 9) (oSo (eC (.int 1))) (oSo (eBin oAdd (eVb 8) (eC (.int 1))))))) (sRet (eC (.bl false))) sNil)
    (sSeq (sIf (eTst (eBin oNe (eLst (eComp (iRg1 (eV 8)) (gN 12) eYes (eCall φ_least_limit (eCons (eCall φ_least_of (eCons (eLst (eDsp (eCons (eV 3) (eCons (eV 4) eNil)))) eNil)) (eCons (eV 12) eNil))) [12])) (eLst (eComp (iD (eSl (eLst (eListZi (eVb 9) (eVb 10))) oNo (oSo (eV 8)))) (gN 17) eYes (eBlt bMin (eCons (eVb 17) eNil)) [17])))) (sRet (eC (.bl false))) sNil)
    (sIf (eTst (eBin oNe (eLst (eComp (iRg1 (eV 8)) (gN 12) eYes (eCall φ_least_limit (eCons (eCall φ_greatest_of (eCons (eLst (eDsp (eCons (eV 3) (eCons (eV 4) eNil)))) eNil)) (eCons (eV 12) eNil))) [12])) (eLst (eComp (iD (eSl (eLst (eListZi (eVb 9) (eVb 10))) oNo (oSo (eV 8)))) (gN 17) eYes (eBlt bMax (eCons (eVb 17) eNil)) [17])))) (sRet (eC (.bl false))) sNil)))))))))))
    (sRet (eC (.bl true)))))
def φ_law : List D → Sto → Res D := runD 18 b_law
theorem e_law {x0 : D} {S : Sto} {Q : D → Sto → Prop} : Ev (φ_law [x0] S) Q = EvS (b_law [some (.sh x0), none, none, none, none, none, none, none, none, none, none, none, none, none, none, none, none, none] S) (fun _ S => Q .non S) Q (fun _ _ => False) (fun _ _ => False) := ev_runD
end DL

namespace DL
open PySem PySem.Spec PyProof.Rows L2
def topS (i : Nat) : Stmt := PySem.Challenge.pw_quietcount_k14_whole_least_limits_tell_t.main.body.getD i (.Pass ⟨0, 0, 0, 0⟩)
abbrev st_is_integer : Stmt := topS 1
abbrev N_is_integer : List Str := ["value"]
theorem sc_is_integer : FnScope N_is_integer ["value"] (defScope st_is_integer) := ⟨rfl, rfl, rfl, by decide +kernel, rfl, by decide +kernel, by decide +kernel⟩
abbrev st_is_between : Stmt := topS 2
abbrev N_is_between : List Str := ["value", "least", "most"]
theorem sc_is_between : FnScope N_is_between ["value", "least", "most"] (defScope st_is_between) := ⟨rfl, rfl, rfl, by decide +kernel, rfl, by decide +kernel, by decide +kernel⟩
abbrev st_is_listed : Stmt := topS 3
abbrev N_is_listed : List Str := ["value"]
theorem sc_is_listed : FnScope N_is_listed ["value"] (defScope st_is_listed) := ⟨rfl, rfl, rfl, by decide +kernel, rfl, by decide +kernel, by decide +kernel⟩
abbrev st_cut_of : Stmt := topS 10
abbrev N_cut_of : List Str := ["pairs", "found", "limit", "number"]
theorem sc_cut_of : FnScope N_cut_of ["pairs"] (defScope st_cut_of) := ⟨rfl, rfl, rfl, by decide +kernel, rfl, by decide +kernel, by decide +kernel⟩
abbrev st_number_in : Stmt := topS 11
abbrev N_number_in : List Str := ["stair", "limit", "told", "first", "number"]
theorem sc_number_in : FnScope N_number_in ["stair", "limit"] (defScope st_number_in) := ⟨rfl, rfl, rfl, by decide +kernel, rfl, by decide +kernel, by decide +kernel⟩
abbrev st_least_in : Stmt := topS 12
abbrev N_least_in : List Str := ["stair", "count", "limit", "number"]
theorem sc_least_in : FnScope N_least_in ["stair", "count"] (defScope st_least_in) := ⟨rfl, rfl, rfl, by decide +kernel, rfl, by decide +kernel, by decide +kernel⟩
abbrev st_quiet_in : Stmt := topS 13
abbrev N_quiet_in : List Str := ["stair", "limit", "number"]
theorem sc_quiet_in : FnScope N_quiet_in ["stair"] (defScope st_quiet_in) := ⟨rfl, rfl, rfl, by decide +kernel, rfl, by decide +kernel, by decide +kernel⟩
abbrev st_least_among : Stmt := topS 14
abbrev N_least_among : List Str := ["stairs", "stair", "corner"]
theorem sc_least_among : FnScope N_least_among ["stairs"] (defScope st_least_among) := ⟨rfl, rfl, rfl, by decide +kernel, rfl, by decide +kernel, by decide +kernel⟩
abbrev st_greatest_among : Stmt := topS 15
abbrev N_greatest_among : List Str := ["stairs", "stair", "start", "limits", "limit", "number"]
theorem sc_greatest_among : FnScope N_greatest_among ["stairs"] (defScope st_greatest_among) := ⟨rfl, rfl, rfl, by decide +kernel, rfl, by decide +kernel, by decide +kernel⟩
abbrev st_is_pair_of : Stmt := topS 16
abbrev N_is_pair_of : List Str := ["value", "least", "most"]
theorem sc_is_pair_of : FnScope N_is_pair_of ["value", "least", "most"] (defScope st_is_pair_of) := ⟨rfl, rfl, rfl, by decide +kernel, rfl, by decide +kernel, by decide +kernel⟩
abbrev st_fixed_stair : Stmt := topS 17
abbrev N_fixed_stair : List Str := ["stair", "corner"]
theorem sc_fixed_stair : FnScope N_fixed_stair ["stair"] (defScope st_fixed_stair) := ⟨rfl, rfl, rfl, by decide +kernel, rfl, by decide +kernel, by decide +kernel⟩
abbrev st_is_stair : Stmt := topS 22
abbrev N_is_stair : List Str := ["value", "corner", "limit", "number", "one", "other"]
theorem sc_is_stair : FnScope N_is_stair ["value"] (defScope st_is_stair) := ⟨rfl, rfl, rfl, by decide +kernel, rfl, by decide +kernel, by decide +kernel⟩
abbrev st_need_stair : Stmt := topS 18
abbrev N_need_stair : List Str := ["stair"]
theorem sc_need_stair : FnScope N_need_stair ["stair"] (defScope st_need_stair) := ⟨rfl, rfl, rfl, by decide +kernel, rfl, by decide +kernel, by decide +kernel⟩
abbrev st_need_stairs : Stmt := topS 19
abbrev N_need_stairs : List Str := ["stairs", "stair"]
theorem sc_need_stairs : FnScope N_need_stairs ["stairs"] (defScope st_need_stairs) := ⟨rfl, rfl, rfl, by decide +kernel, rfl, by decide +kernel, by decide +kernel⟩
abbrev st_need_count : Stmt := topS 20
abbrev N_need_count : List Str := ["count", "most"]
theorem sc_need_count : FnScope N_need_count ["count", "most"] (defScope st_need_count) := ⟨rfl, rfl, rfl, by decide +kernel, rfl, by decide +kernel, by decide +kernel⟩
abbrev st_need_limit : Stmt := topS 21
abbrev N_need_limit : List Str := ["limit"]
theorem sc_need_limit : FnScope N_need_limit ["limit"] (defScope st_need_limit) := ⟨rfl, rfl, rfl, by decide +kernel, rfl, by decide +kernel, by decide +kernel⟩
abbrev st_number_at : Stmt := topS 23
abbrev N_number_at : List Str := ["stair", "limit", "told"]
theorem sc_number_at : FnScope N_number_at ["stair", "limit"] (defScope st_number_at) := ⟨rfl, rfl, rfl, by decide +kernel, rfl, by decide +kernel, by decide +kernel⟩
abbrev st_least_limit : Stmt := topS 24
abbrev N_least_limit : List Str := ["stair", "count", "told"]
theorem sc_least_limit : FnScope N_least_limit ["stair", "count"] (defScope st_least_limit) := ⟨rfl, rfl, rfl, by decide +kernel, rfl, by decide +kernel, by decide +kernel⟩
abbrev st_quiet_of : Stmt := topS 25
abbrev N_quiet_of : List Str := ["stair"]
theorem sc_quiet_of : FnScope N_quiet_of ["stair"] (defScope st_quiet_of) := ⟨rfl, rfl, rfl, by decide +kernel, rfl, by decide +kernel, by decide +kernel⟩
abbrev st_least_of : Stmt := topS 26
abbrev N_least_of : List Str := ["stairs"]
theorem sc_least_of : FnScope N_least_of ["stairs"] (defScope st_least_of) := ⟨rfl, rfl, rfl, by decide +kernel, rfl, by decide +kernel, by decide +kernel⟩
abbrev st_greatest_of : Stmt := topS 27
abbrev N_greatest_of : List Str := ["stairs"]
theorem sc_greatest_of : FnScope N_greatest_of ["stairs"] (defScope st_greatest_of) := ⟨rfl, rfl, rfl, by decide +kernel, rfl, by decide +kernel, by decide +kernel⟩
abbrev st__law_pen : Stmt := topS 29
abbrev N__law_pen : List Str := ["script", "cell"]
theorem sc__law_pen : FnScope N__law_pen ["script"] (defScope st__law_pen) := ⟨rfl, rfl, rfl, by decide +kernel, rfl, by decide +kernel, by decide +kernel⟩
abbrev st__law_draw : Stmt := topS 30
abbrev N__law_draw : List Str := ["pen", "many", "rest", "at", "cell", "mixed"]
theorem sc__law_draw : FnScope N__law_draw ["pen", "many"] (defScope st__law_draw) := ⟨rfl, rfl, rfl, by decide +kernel, rfl, by decide +kernel, by decide +kernel⟩
abbrev st__law_pick : Stmt := topS 31
abbrev N__law_pick : List Str := ["pen", "some"]
theorem sc__law_pick : FnScope N__law_pick ["pen", "some"] (defScope st__law_pick) := ⟨rfl, rfl, rfl, by decide +kernel, rfl, by decide +kernel, by decide +kernel⟩
abbrev st__law_cut : Stmt := topS 32
abbrev N__law_cut : List Str := ["corners", "some", "limit", "number", "found"]
theorem sc__law_cut : FnScope N__law_cut ["corners"] (defScope st__law_cut) := ⟨rfl, rfl, rfl, by decide +kernel, rfl, by decide +kernel, by decide +kernel⟩
abbrev st__law_by_limits : Stmt := topS 33
abbrev N__law_by_limits : List Str := ["pairs", "most", "found", "limit", "some", "first", "number"]
theorem sc__law_by_limits : FnScope N__law_by_limits ["pairs", "most"] (defScope st__law_by_limits) := ⟨rfl, rfl, rfl, by decide +kernel, rfl, by decide +kernel, by decide +kernel⟩
abbrev st__law_of_limits : Stmt := topS 34
abbrev N__law_of_limits : List Str := ["row", "found", "limit", "number"]
theorem sc__law_of_limits : FnScope N__law_of_limits ["row"] (defScope st__law_of_limits) := ⟨rfl, rfl, rfl, by decide +kernel, rfl, by decide +kernel, by decide +kernel⟩
abbrev st__law_pairs : Stmt := topS 35
abbrev N__law_pairs : List Str := ["pen", "most", "turn"]
theorem sc__law_pairs : FnScope N__law_pairs ["pen", "most"] (defScope st__law_pairs) := ⟨rfl, rfl, rfl, by decide +kernel, rfl, by decide +kernel, by decide +kernel⟩
abbrev st__law_most : Stmt := topS 36
abbrev N__law_most : List Str := ["stairs", "stair", "corner"]
theorem sc__law_most : FnScope N__law_most ["stairs"] (defScope st__law_most) := ⟨rfl, rfl, rfl, by decide +kernel, rfl, by decide +kernel, by decide +kernel⟩
abbrev st__law_stair : Stmt := topS 37
abbrev N__law_stair : List Str := ["pen", "most", "pairs"]
theorem sc__law_stair : FnScope N__law_stair ["pen", "most"] (defScope st__law_stair) := ⟨rfl, rfl, rfl, by decide +kernel, rfl, by decide +kernel, by decide +kernel⟩
abbrev st__law_some_stair : Stmt := topS 38
abbrev N__law_some_stair : List Str := ["pen", "most", "found"]
theorem sc__law_some_stair : FnScope N__law_some_stair ["pen", "most"] (defScope st__law_some_stair) := ⟨rfl, rfl, rfl, by decide +kernel, rfl, by decide +kernel, by decide +kernel⟩
abbrev st_law : Stmt := topS 39
abbrev N_law : List Str := ["script", "pen", "turn", "one", "other", "at", "spot", "corner", "most", "mine", "its", "stair", "count", "limit", "some", "told", "due", "pair"]
theorem sc_law : FnScope N_law ["script"] (defScope st_law) := ⟨rfl, rfl, rfl, by decide +kernel, rfl, by decide +kernel, by decide +kernel⟩
structure GG (K : PySem.W.Frag) (mg : Str → Option Value) where
  f_is_integer : Addr
  fd_is_integer : FuncData
  F_is_integer : Fun K "is_integer" "is_integer" st_is_integer f_is_integer fd_is_integer
  b_is_integer : Binds K fd_is_integer ["value"] []
  g_is_integer : mg "is_integer" = some (.ref f_is_integer)
  f_is_between : Addr
  fd_is_between : FuncData
  F_is_between : Fun K "is_between" "is_between" st_is_between f_is_between fd_is_between
  b_is_between : Binds K fd_is_between ["value", "least", "most"] []
  g_is_between : mg "is_between" = some (.ref f_is_between)
  f_is_listed : Addr
  fd_is_listed : FuncData
  F_is_listed : Fun K "is_listed" "is_listed" st_is_listed f_is_listed fd_is_listed
  b_is_listed : Binds K fd_is_listed ["value"] []
  g_is_listed : mg "is_listed" = some (.ref f_is_listed)
  f_cut_of : Addr
  fd_cut_of : FuncData
  F_cut_of : Fun K "cut_of" "cut_of" st_cut_of f_cut_of fd_cut_of
  b_cut_of : Binds K fd_cut_of ["pairs"] []
  g_cut_of : mg "cut_of" = some (.ref f_cut_of)
  f_number_in : Addr
  fd_number_in : FuncData
  F_number_in : Fun K "number_in" "number_in" st_number_in f_number_in fd_number_in
  b_number_in : Binds K fd_number_in ["stair", "limit"] []
  g_number_in : mg "number_in" = some (.ref f_number_in)
  f_least_in : Addr
  fd_least_in : FuncData
  F_least_in : Fun K "least_in" "least_in" st_least_in f_least_in fd_least_in
  b_least_in : Binds K fd_least_in ["stair", "count"] []
  g_least_in : mg "least_in" = some (.ref f_least_in)
  f_quiet_in : Addr
  fd_quiet_in : FuncData
  F_quiet_in : Fun K "quiet_in" "quiet_in" st_quiet_in f_quiet_in fd_quiet_in
  b_quiet_in : Binds K fd_quiet_in ["stair"] []
  g_quiet_in : mg "quiet_in" = some (.ref f_quiet_in)
  f_least_among : Addr
  fd_least_among : FuncData
  F_least_among : Fun K "least_among" "least_among" st_least_among f_least_among fd_least_among
  b_least_among : Binds K fd_least_among ["stairs"] []
  g_least_among : mg "least_among" = some (.ref f_least_among)
  f_greatest_among : Addr
  fd_greatest_among : FuncData
  F_greatest_among : Fun K "greatest_among" "greatest_among" st_greatest_among f_greatest_among fd_greatest_among
  b_greatest_among : Binds K fd_greatest_among ["stairs"] []
  g_greatest_among : mg "greatest_among" = some (.ref f_greatest_among)
  f_is_pair_of : Addr
  fd_is_pair_of : FuncData
  F_is_pair_of : Fun K "is_pair_of" "is_pair_of" st_is_pair_of f_is_pair_of fd_is_pair_of
  b_is_pair_of : Binds K fd_is_pair_of ["value", "least", "most"] []
  g_is_pair_of : mg "is_pair_of" = some (.ref f_is_pair_of)
  f_fixed_stair : Addr
  fd_fixed_stair : FuncData
  F_fixed_stair : Fun K "fixed_stair" "fixed_stair" st_fixed_stair f_fixed_stair fd_fixed_stair
  b_fixed_stair : Binds K fd_fixed_stair ["stair"] []
  g_fixed_stair : mg "fixed_stair" = some (.ref f_fixed_stair)
  f_is_stair : Addr
  fd_is_stair : FuncData
  F_is_stair : Fun K "is_stair" "is_stair" st_is_stair f_is_stair fd_is_stair
  b_is_stair : Binds K fd_is_stair ["value"] []
  g_is_stair : mg "is_stair" = some (.ref f_is_stair)
  f_need_stair : Addr
  fd_need_stair : FuncData
  F_need_stair : Fun K "need_stair" "need_stair" st_need_stair f_need_stair fd_need_stair
  b_need_stair : Binds K fd_need_stair ["stair"] []
  g_need_stair : mg "need_stair" = some (.ref f_need_stair)
  f_need_stairs : Addr
  fd_need_stairs : FuncData
  F_need_stairs : Fun K "need_stairs" "need_stairs" st_need_stairs f_need_stairs fd_need_stairs
  b_need_stairs : Binds K fd_need_stairs ["stairs"] []
  g_need_stairs : mg "need_stairs" = some (.ref f_need_stairs)
  f_need_count : Addr
  fd_need_count : FuncData
  F_need_count : Fun K "need_count" "need_count" st_need_count f_need_count fd_need_count
  b_need_count : Binds K fd_need_count ["count", "most"] []
  g_need_count : mg "need_count" = some (.ref f_need_count)
  f_need_limit : Addr
  fd_need_limit : FuncData
  F_need_limit : Fun K "need_limit" "need_limit" st_need_limit f_need_limit fd_need_limit
  b_need_limit : Binds K fd_need_limit ["limit"] []
  g_need_limit : mg "need_limit" = some (.ref f_need_limit)
  f_number_at : Addr
  fd_number_at : FuncData
  F_number_at : Fun K "number_at" "number_at" st_number_at f_number_at fd_number_at
  b_number_at : Binds K fd_number_at ["stair", "limit"] []
  g_number_at : mg "number_at" = some (.ref f_number_at)
  f_least_limit : Addr
  fd_least_limit : FuncData
  F_least_limit : Fun K "least_limit" "least_limit" st_least_limit f_least_limit fd_least_limit
  b_least_limit : Binds K fd_least_limit ["stair", "count"] []
  g_least_limit : mg "least_limit" = some (.ref f_least_limit)
  f_quiet_of : Addr
  fd_quiet_of : FuncData
  F_quiet_of : Fun K "quiet_of" "quiet_of" st_quiet_of f_quiet_of fd_quiet_of
  b_quiet_of : Binds K fd_quiet_of ["stair"] []
  g_quiet_of : mg "quiet_of" = some (.ref f_quiet_of)
  f_least_of : Addr
  fd_least_of : FuncData
  F_least_of : Fun K "least_of" "least_of" st_least_of f_least_of fd_least_of
  b_least_of : Binds K fd_least_of ["stairs"] []
  g_least_of : mg "least_of" = some (.ref f_least_of)
  f_greatest_of : Addr
  fd_greatest_of : FuncData
  F_greatest_of : Fun K "greatest_of" "greatest_of" st_greatest_of f_greatest_of fd_greatest_of
  b_greatest_of : Binds K fd_greatest_of ["stairs"] []
  g_greatest_of : mg "greatest_of" = some (.ref f_greatest_of)
  f__law_pen : Addr
  fd__law_pen : FuncData
  F__law_pen : Fun K "_law_pen" "_law_pen" st__law_pen f__law_pen fd__law_pen
  b__law_pen : Binds K fd__law_pen ["script"] []
  g__law_pen : mg "_law_pen" = some (.ref f__law_pen)
  f__law_draw : Addr
  fd__law_draw : FuncData
  F__law_draw : Fun K "_law_draw" "_law_draw" st__law_draw f__law_draw fd__law_draw
  b__law_draw : Binds K fd__law_draw ["pen", "many"] []
  g__law_draw : mg "_law_draw" = some (.ref f__law_draw)
  f__law_pick : Addr
  fd__law_pick : FuncData
  F__law_pick : Fun K "_law_pick" "_law_pick" st__law_pick f__law_pick fd__law_pick
  b__law_pick : Binds K fd__law_pick ["pen", "some"] []
  g__law_pick : mg "_law_pick" = some (.ref f__law_pick)
  f__law_cut : Addr
  fd__law_cut : FuncData
  F__law_cut : Fun K "_law_cut" "_law_cut" st__law_cut f__law_cut fd__law_cut
  b__law_cut : Binds K fd__law_cut ["corners"] []
  g__law_cut : mg "_law_cut" = some (.ref f__law_cut)
  f__law_by_limits : Addr
  fd__law_by_limits : FuncData
  F__law_by_limits : Fun K "_law_by_limits" "_law_by_limits" st__law_by_limits f__law_by_limits fd__law_by_limits
  b__law_by_limits : Binds K fd__law_by_limits ["pairs", "most"] []
  g__law_by_limits : mg "_law_by_limits" = some (.ref f__law_by_limits)
  f__law_of_limits : Addr
  fd__law_of_limits : FuncData
  F__law_of_limits : Fun K "_law_of_limits" "_law_of_limits" st__law_of_limits f__law_of_limits fd__law_of_limits
  b__law_of_limits : Binds K fd__law_of_limits ["row"] []
  g__law_of_limits : mg "_law_of_limits" = some (.ref f__law_of_limits)
  f__law_pairs : Addr
  fd__law_pairs : FuncData
  F__law_pairs : Fun K "_law_pairs" "_law_pairs" st__law_pairs f__law_pairs fd__law_pairs
  b__law_pairs : Binds K fd__law_pairs ["pen", "most"] []
  g__law_pairs : mg "_law_pairs" = some (.ref f__law_pairs)
  f__law_most : Addr
  fd__law_most : FuncData
  F__law_most : Fun K "_law_most" "_law_most" st__law_most f__law_most fd__law_most
  b__law_most : Binds K fd__law_most ["stairs"] []
  g__law_most : mg "_law_most" = some (.ref f__law_most)
  f__law_stair : Addr
  fd__law_stair : FuncData
  F__law_stair : Fun K "_law_stair" "_law_stair" st__law_stair f__law_stair fd__law_stair
  b__law_stair : Binds K fd__law_stair ["pen", "most"] []
  g__law_stair : mg "_law_stair" = some (.ref f__law_stair)
  f__law_some_stair : Addr
  fd__law_some_stair : FuncData
  F__law_some_stair : Fun K "_law_some_stair" "_law_some_stair" st__law_some_stair f__law_some_stair fd__law_some_stair
  b__law_some_stair : Binds K fd__law_some_stair ["pen", "most"] []
  g__law_some_stair : mg "_law_some_stair" = some (.ref f__law_some_stair)
  f_law : Addr
  fd_law : FuncData
  F_law : Fun K "law" "law" st_law f_law fd_law
  b_law : Binds K fd_law ["script"] []
  g_law : mg "law" = some (.ref f_law)
  z_isinstance : mg "isinstance" = none
  z_int : mg "int" = none
  z_bool : mg "bool" = none
  z_list : mg "list" = none
  z_tuple : mg "tuple" = none
  z_max : mg "max" = none
  z_sorted : mg "sorted" = none
  z_min : mg "min" = none
  z_any : mg "any" = none
  z_len : mg "len" = none
  z_all : mg "all" = none
  z_zip : mg "zip" = none
  z_abs : mg "abs" = none
  z_range : mg "range" = none
  z_enumerate : mg "enumerate" = none
  c_MOST_LIMIT : ∃ t, mg "MOST_LIMIT" = some (.int 1000000 t)
theorem ok_is_integer {P : Program} {w : World} {K : PySem.W.Frag} {mg : Str → Option Value} {base : Heap} (G : GG K mg) : FnOk P w K mg base CX0 1 G.f_is_integer G.fd_is_integer ["value"] (spD K 1 φ_is_integer) :=
  fn_data (k := 0) G.F_is_integer sc_is_integer fun cdv A outer s H E B hr => by
    have hu := hr.units
    have nd := sc_is_integer.nd
    exact (ss_one (s_ret (d_and (d_isi rfl (by rfl) G.z_isinstance (by decide +kernel) (by rfl) G.z_int (by decide +kernel) (by decide) (bv 0)) (d_one (d_not (d_isi rfl (by rfl) G.z_isinstance (by decide +kernel) (by rfl) G.z_bool (by decide +kernel) (by decide) (bv 0)))))))
theorem ok_is_between {P : Program} {w : World} {K : PySem.W.Frag} {mg : Str → Option Value} {base : Heap} (G : GG K mg) : FnOk P w K mg base CX0 2 G.f_is_between G.fd_is_between ["value", "least", "most"] (spD K 3 φ_is_between) :=
  fn_data (k := 1) G.F_is_between sc_is_between fun cdv A outer s H E B hr => by
    have hu := hr.units
    have nd := sc_is_between.nd
    exact (ss_one (s_ret (d_and (d_call (ok_is_integer G) (hr.mono (by decide)) (by rfl) G.g_is_integer G.F_is_integer.kp G.b_is_integer (a_cons (dv 0) a_nil) rfl (eCons_len (fun _ _ _ _ h => eNil_len h))) (d_one (c_chain k_le k_le (bv 1) (bv 0) (bv 2))))))
theorem ok_is_listed {P : Program} {w : World} {K : PySem.W.Frag} {mg : Str → Option Value} {base : Heap} (G : GG K mg) : FnOk P w K mg base CX0 1 G.f_is_listed G.fd_is_listed ["value"] (spD K 1 φ_is_listed) :=
  fn_data (k := 0) G.F_is_listed sc_is_listed fun cdv A outer s H E B hr => by
    have hu := hr.units
    have nd := sc_is_listed.nd
    exact (ss_one (s_ret (d_isi2 rfl (by rfl) G.z_isinstance (by decide +kernel) (by rfl) G.z_list (by decide +kernel) (by rfl) G.z_tuple (by decide +kernel) (by decide) (by decide) (bv 0))))
theorem ok_cut_of {P : Program} {w : World} {K : PySem.W.Frag} {mg : Str → Option Value} {base : Heap} (G : GG K mg) : FnOk P w K mg base CX0 1 G.f_cut_of G.fd_cut_of ["pairs"] (spD K 1 φ_cut_of) :=
  fn_data (k := 0) G.F_cut_of sc_cut_of fun cdv A outer s H E B hr => by
    have hu := hr.units
    have nd := sc_cut_of.nd
    exact (ss_cons (s_new (ps_set (i := 1) nd rfl (Or.inl rfl) (n_lst a_nil)))
    (ss_cons (s_for PassesOwn.never rfl (i_seq rfl (n_d (c_sorted hu G.z_sorted (ab_cons (d_b (n_d (n_lc rfl nd (i_seq rfl (dv 0)) (blkOk_by (own := [("limit", 2), ("number", 3)]) (by kernel_rfl)) (fun _ _ _ _ _ => (g_tup rfl rfl (gs_cons (gn 2 nd) (gs_cons (gn 3 nd) gs_nil)))) (fun _ _ _ _ _ => ts_nil) (fun _ _ _ _ _ => (d_tup (a_cons (c_max2 rfl G.z_max (ab_cons (bv 2) (ab_cons (bv 3) ab_nil))) (a_cons (dv 3) a_nil)))) (by decide)))) ab_nil)))) (g_tup rfl rfl (gs_cons (gn 2 nd) (gs_cons (gn 3 nd) gs_nil))) (ss_one (s_if (w_or (q_cmp (k_eq hu) (bv 1) (d_b (n_d (n_lst a_nil)))) (w_or1 (q_cmp k_lt (bv 3) (d_b (c_ix (d_b (c_ix (bv 1) (d_b (d_neg (d_b d_int))))) (d_b d_int)))))).pt (ss_one (s_appA (dvv 1) (d_tup (a_cons (dv 2) (a_cons (dv 3) a_nil))))) ss_nil)))
    (ss_one (s_ret (c_tuple G.z_tuple (ab_cons (bv 1) ab_nil))))))
theorem ok_number_in {P : Program} {w : World} {K : PySem.W.Frag} {mg : Str → Option Value} {base : Heap} (G : GG K mg) : FnOk P w K mg base CX0 1 G.f_number_in G.fd_number_in ["stair", "limit"] (spD K 2 φ_number_in) :=
  fn_data (k := 0) G.F_number_in sc_number_in fun cdv A outer s H E B hr => by
    have hu := hr.units
    have nd := sc_number_in.nd
    exact (ss_cons (s_setN (s_newLc (i := 2) rfl nd rfl rfl (sw_true rfl rfl rfl (by decide +kernel)) (i_seq rfl (dv 0)) (blkOk_by (own := [("first", 3), ("number", 4)]) (by kernel_rfl)) (fun _ _ _ _ _ => (g_tup rfl rfl (gs_cons (gn 3 nd) (gs_cons (gn 4 nd) gs_nil)))) (fun _ _ _ _ _ => ts_one (q_cmp k_le (bv 3) (bv 1))) (fun _ _ _ _ _ => (dv 4)) (by decide)))
    (ss_one (s_ret (d_if (q_tru (bv 2)) (c_ix (bv 2) (d_b (d_neg (d_b d_int)))) d_non))))
theorem ok_least_in {P : Program} {w : World} {K : PySem.W.Frag} {mg : Str → Option Value} {base : Heap} (G : GG K mg) : FnOk P w K mg base CX0 1 G.f_least_in G.fd_least_in ["stair", "count"] (spD K 2 φ_least_in) :=
  fn_data (k := 0) G.F_least_in sc_least_in fun cdv A outer s H E B hr => by
    have hu := hr.units
    have nd := sc_least_in.nd
    exact (ss_one (s_ret (d_minDef rfl (crk_min rfl hu) (by rfl) G.z_min (by decide +kernel) (d_b (n_d (n_lc rfl nd (i_seq rfl (dv 0)) (blkOk_by (own := [("limit", 2), ("number", 3)]) (by kernel_rfl)) (fun _ _ _ _ _ => (g_tup rfl rfl (gs_cons (gn 2 nd) (gs_cons (gn 3 nd) gs_nil)))) (fun _ _ _ _ _ => ts_nil) (fun _ _ _ _ _ => (c_max2 rfl G.z_max (ab_cons (bv 2) (ab_cons (d_b (c_add (bv 3) (bv 1))) ab_nil)))) (by decide)))) d_non)))
theorem ok_quiet_in {P : Program} {w : World} {K : PySem.W.Frag} {mg : Str → Option Value} {base : Heap} (G : GG K mg) : FnOk P w K mg base CX0 2 G.f_quiet_in G.fd_quiet_in ["stair"] (spD K 1 φ_quiet_in) :=
  fn_data (k := 1) G.F_quiet_in sc_quiet_in fun cdv A outer s H E B hr => by
    have hu := hr.units
    have nd := sc_quiet_in.nd
    exact (ss_one (s_ret (d_call (ok_cut_of G) (hr.mono (by decide)) (by rfl) G.g_cut_of G.F_cut_of.kp G.b_cut_of (a_cons (n_d (n_lc rfl nd (i_seq rfl (dv 0)) (blkOk_by (own := [("limit", 1), ("number", 2)]) (by kernel_rfl)) (fun _ _ _ _ _ => (g_tup rfl rfl (gs_cons (gn 1 nd) (gs_cons (gn 2 nd) gs_nil)))) (fun _ _ _ _ _ => ts_nil) (fun _ _ _ _ _ => (d_tup (a_cons (dv 1) (a_cons (c_add (bv 2) (d_b d_int)) a_nil)))) (by decide))) a_nil) rfl (eCons_len (fun _ _ _ _ h => eNil_len h)))))
theorem ok_least_among {P : Program} {w : World} {K : PySem.W.Frag} {mg : Str → Option Value} {base : Heap} (G : GG K mg) : FnOk P w K mg base CX0 2 G.f_least_among G.fd_least_among ["stairs"] (spD K 1 φ_least_among) :=
  fn_data (k := 1) G.F_least_among sc_least_among fun cdv A outer s H E B hr => by
    have hu := hr.units
    have nd := sc_least_among.nd
    exact (ss_one (s_ret (d_call (ok_cut_of G) (hr.mono (by decide)) (by rfl) G.g_cut_of G.F_cut_of.kp G.b_cut_of (a_cons (n_d (n_lc2 (vs1 := []) rfl nd (i_seq rfl (dv 0)) (blkOk_by (own := [("stair", 1), ("corner", 2)]) (by kernel_rfl)) (fun _ _ _ _ _ => (gn 1 nd)) (fun _ _ _ _ _ => ts_nil) (fun _ _ _ _ _ => (i_seq rfl (dv 1))) (fun _ _ _ _ _ => (gn 2 nd)) (fun _ _ _ _ _ => ts_nil) (fun _ _ _ _ _ => (dv 2)) (by decide) (by decide) (by decide) (go_n 1))) a_nil) rfl (eCons_len (fun _ _ _ _ h => eNil_len h)))))
theorem ok_greatest_among {P : Program} {w : World} {K : PySem.W.Frag} {mg : Str → Option Value} {base : Heap} (G : GG K mg) : FnOk P w K mg base CX0 2 G.f_greatest_among G.fd_greatest_among ["stairs"] (spD K 1 φ_greatest_among) :=
  fn_data (k := 1) G.F_greatest_among sc_greatest_among fun cdv A outer s H E B hr => by
    have hu := hr.units
    have nd := sc_greatest_among.nd
    exact (ss_cons (s_if (w_or (q_cmp (k_eq hu) (bv 0) (d_b (n_d (n_lst a_nil)))) (w_or1 (q_tru (d_b (c_any rfl G.z_any (ab_cons (d_b (n_d (n_lc rfl nd (i_seq rfl (dv 0)) (blkOk_by (own := [("stair", 1)]) (by kernel_rfl)) (fun _ _ _ _ _ => (gn 1 nd)) (fun _ _ _ _ _ => ts_nil) (fun _ _ _ _ _ => (c_cmp (k_eq hu) (bv 1) (d_b (d_tup a_nil)))) (by decide)))) ab_nil)))))).pt (ss_one (s_ret (d_tup a_nil))) ss_nil)
    (ss_cons (s_set (ps_set (i := 2) nd rfl (Or.inr rfl) (c_max1 rfl hu G.z_max (ab_cons (d_b (n_d (n_lc rfl nd (i_seq rfl (dv 0)) (blkOk_by (own := [("stair", 1)]) (by kernel_rfl)) (fun _ _ _ _ _ => (gn 1 nd)) (fun _ _ _ _ _ => ts_nil) (fun _ _ _ _ _ => (c_ix (d_b (c_ix (bv 1) (d_b d_int))) (d_b d_int))) (by decide)))) ab_nil))))
    (ss_cons (s_set (ps_set (i := 3) nd rfl (Or.inl rfl) (n_d (c_sorted hu G.z_sorted (ab_cons (d_b (n_d (n_lc2 (vs1 := []) rfl nd (i_seq rfl (dv 0)) (blkOk_by (own := [("stair", 1), ("limit", 4), ("number", 5)]) (by kernel_rfl)) (fun _ _ _ _ _ => (gn 1 nd)) (fun _ _ _ _ _ => ts_nil) (fun _ _ _ _ _ => (i_seq rfl (dv 1))) (fun _ _ _ _ _ => (g_tup rfl rfl (gs_cons (gn 4 nd) (gs_cons (gn 5 nd) gs_nil)))) (fun _ _ _ _ _ => ts_one (q_cmp k_ge (bv 4) (bv 2))) (fun _ _ _ _ _ => (dv 4)) (by decide) (by decide) (by decide) (go_n 1)))) ab_nil)))))
    (ss_one (s_ret (d_call (ok_cut_of G) (hr.mono (by decide)) (by rfl) G.g_cut_of G.F_cut_of.kp G.b_cut_of (a_cons (n_d (n_lc rfl nd (i_seq rfl (dv 3)) (blkOk_by (own := [("limit", 4)]) (by kernel_rfl)) (fun _ _ _ _ _ => (gn 4 nd)) (fun _ _ _ _ _ => ts_nil) (fun _ _ _ _ _ => (d_tup (a_cons (dv 4) (a_cons (c_max1 rfl hu G.z_max (ab_cons (d_b (n_d (n_lc rfl nd (i_seq rfl (dv 0)) (blkOk_by (own := [("stair", 1)]) (by kernel_rfl)) (fun _ _ _ _ _ => (gn 1 nd)) (fun _ _ _ _ _ => ts_nil) (fun _ _ _ _ _ => (d_call (ok_number_in G) (hr.mono (by decide)) (by rfl) G.g_number_in G.F_number_in.kp G.b_number_in (a_cons (dv 1) (a_cons (dv 4) a_nil)) rfl (eCons_len (eCons_len (fun _ _ _ _ h => eNil_len h))))) (by decide)))) ab_nil)) a_nil)))) (by decide))) a_nil) rfl (eCons_len (fun _ _ _ _ h => eNil_len h))))))))
theorem ok_is_pair_of {P : Program} {w : World} {K : PySem.W.Frag} {mg : Str → Option Value} {base : Heap} (G : GG K mg) : FnOk P w K mg base CX0 3 G.f_is_pair_of G.fd_is_pair_of ["value", "least", "most"] (spD K 3 φ_is_pair_of) :=
  fn_data (k := 2) G.F_is_pair_of sc_is_pair_of fun cdv A outer s H E B hr => by
    have hu := hr.units
    have nd := sc_is_pair_of.nd
    exact (ss_cons (s_if (w_or (t_not (q_tru (d_b (d_call (ok_is_listed G) (hr.mono (by decide)) (by rfl) G.g_is_listed G.F_is_listed.kp G.b_is_listed (a_cons (dv 0) a_nil) rfl (eCons_len (fun _ _ _ _ h => eNil_len h)))))) (w_or1 (q_cmp (k_ne hu) (d_b (c_len G.z_len (ab_cons (bv 0) ab_nil))) (d_b d_int)))).pt (ss_one (s_ret d_bl)) ss_nil)
    (ss_one (s_ret (d_and (d_call (ok_is_between G) (hr.mono (by decide)) (by rfl) G.g_is_between G.F_is_between.kp G.b_is_between (a_cons (c_ix (bv 0) (d_b d_int)) (a_cons d_int (a_cons (d_gint G.c_MOST_LIMIT) a_nil))) rfl (eCons_len (eCons_len (eCons_len (fun _ _ _ _ h => eNil_len h))))) (d_one (d_call (ok_is_between G) (hr.mono (by decide)) (by rfl) G.g_is_between G.F_is_between.kp G.b_is_between (a_cons (c_ix (bv 0) (d_b d_int)) (a_cons (dv 1) (a_cons (dv 2) a_nil))) rfl (eCons_len (eCons_len (eCons_len (fun _ _ _ _ h => eNil_len h))))))))))
theorem ok_fixed_stair {P : Program} {w : World} {K : PySem.W.Frag} {mg : Str → Option Value} {base : Heap} (G : GG K mg) : FnOk P w K mg base CX0 1 G.f_fixed_stair G.fd_fixed_stair ["stair"] (spD K 1 φ_fixed_stair) :=
  fn_data (k := 0) G.F_fixed_stair sc_fixed_stair fun cdv A outer s H E B hr => by
    have hu := hr.units
    have nd := sc_fixed_stair.nd
    exact (ss_one (s_ret (c_tuple G.z_tuple (ab_cons (d_b (n_d (n_lc rfl nd (i_seq rfl (dv 0)) (blkOk_by (own := [("corner", 1)]) (by kernel_rfl)) (fun _ _ _ _ _ => (gn 1 nd)) (fun _ _ _ _ _ => ts_nil) (fun _ _ _ _ _ => (d_tup (a_cons (c_ix (bv 1) (d_b d_int)) (a_cons (c_ix (bv 1) (d_b d_int)) a_nil)))) (by decide)))) ab_nil))))
theorem ok_is_stair {P : Program} {w : World} {K : PySem.W.Frag} {mg : Str → Option Value} {base : Heap} (G : GG K mg) : FnOk P w K mg base CX0 4 G.f_is_stair G.fd_is_stair ["value"] (spD K 1 φ_is_stair) :=
  fn_data (k := 3) G.F_is_stair sc_is_stair fun cdv A outer s H E B hr => by
    have hu := hr.units
    have nd := sc_is_stair.nd
    exact (ss_cons (s_if (w_or (t_not (q_tru (d_b (d_call (ok_is_listed G) (hr.mono (by decide)) (by rfl) G.g_is_listed G.F_is_listed.kp G.b_is_listed (a_cons (dv 0) a_nil) rfl (eCons_len (fun _ _ _ _ h => eNil_len h)))))) (w_or1 (t_not (q_tru (d_b (c_all rfl G.z_all (ab_cons (d_b (n_d (n_lc rfl nd (i_seq rfl (dv 0)) (blkOk_by (own := [("corner", 1)]) (by kernel_rfl)) (fun _ _ _ _ _ => (gn 1 nd)) (fun _ _ _ _ _ => ts_nil) (fun _ _ _ _ _ => (d_call (ok_is_pair_of G) (hr.mono (by decide)) (by rfl) G.g_is_pair_of G.F_is_pair_of.kp G.b_is_pair_of (a_cons (dv 1) (a_cons d_int (a_cons (d_gint G.c_MOST_LIMIT) a_nil))) rfl (eCons_len (eCons_len (eCons_len (fun _ _ _ _ h => eNil_len h)))))) (by decide)))) ab_nil))))))).pt (ss_one (s_ret d_bl)) ss_nil)
    (ss_cons (s_if (t_not (q_tru (d_b (c_all rfl G.z_all (ab_cons (d_b (n_d (n_lc rfl nd (i_seq rfl (dv 0)) (blkOk_by (own := [("limit", 2), ("number", 3)]) (by kernel_rfl)) (fun _ _ _ _ _ => (g_tup rfl rfl (gs_cons (gn 2 nd) (gs_cons (gn 3 nd) gs_nil)))) (fun _ _ _ _ _ => ts_nil) (fun _ _ _ _ _ => (c_cmp k_le (bv 3) (bv 2))) (by decide)))) ab_nil))))) (ss_one (s_ret d_bl)) ss_nil)
    (ss_one (s_ret (c_all rfl G.z_all (ab_cons (d_b (n_d (n_lc rfl nd (i_zip rfl (by rfl) G.z_zip (dv 0) (d_slice rfl (bv 0) (po_so d_int) po_no)) (blkOk_by (own := [("one", 4), ("other", 5)]) (by kernel_rfl)) (fun _ _ _ _ _ => (g_tup rfl rfl (gs_cons (gn 4 nd) (gs_cons (gn 5 nd) gs_nil)))) (fun _ _ _ _ _ => ts_nil) (fun _ _ _ _ _ => (d_and (c_cmp k_lt (d_b (c_ix (bv 4) (d_b d_int))) (d_b (c_ix (bv 5) (d_b d_int)))) (d_one (c_cmp k_gt (d_b (c_ix (bv 4) (d_b d_int))) (d_b (c_ix (bv 5) (d_b d_int))))))) (by decide)))) ab_nil))))))
theorem ok_need_stair {P : Program} {w : World} {K : PySem.W.Frag} {mg : Str → Option Value} {base : Heap} (G : GG K mg) : FnOk P w K mg base CX0 5 G.f_need_stair G.fd_need_stair ["stair"] (spD K 1 φ_need_stair) :=
  fn_data (k := 4) G.F_need_stair sc_need_stair fun cdv A outer s H E B hr => by
    have hu := hr.units
    have nd := sc_need_stair.nd
    exact (ss_cons (s_if (t_not (q_tru (d_b (d_call (ok_is_stair G) (hr.mono (by decide)) (by rfl) G.g_is_stair G.F_is_stair.kp G.b_is_stair (a_cons (dv 0) a_nil) rfl (eCons_len (fun _ _ _ _ h => eNil_len h)))))) (ss_one s_stuck) ss_nil)
    (ss_one (s_ret (d_call (ok_fixed_stair G) (hr.mono (by decide)) (by rfl) G.g_fixed_stair G.F_fixed_stair.kp G.b_fixed_stair (a_cons (dv 0) a_nil) rfl (eCons_len (fun _ _ _ _ h => eNil_len h))))))
theorem ok_need_stairs {P : Program} {w : World} {K : PySem.W.Frag} {mg : Str → Option Value} {base : Heap} (G : GG K mg) : FnOk P w K mg base CX0 5 G.f_need_stairs G.fd_need_stairs ["stairs"] (spD K 1 φ_need_stairs) :=
  fn_data (k := 4) G.F_need_stairs sc_need_stairs fun cdv A outer s H E B hr => by
    have hu := hr.units
    have nd := sc_need_stairs.nd
    exact (ss_cons (s_if (w_or (t_not (q_tru (d_b (d_call (ok_is_listed G) (hr.mono (by decide)) (by rfl) G.g_is_listed G.F_is_listed.kp G.b_is_listed (a_cons (dv 0) a_nil) rfl (eCons_len (fun _ _ _ _ h => eNil_len h)))))) (w_or1 (t_not (q_tru (d_b (c_all rfl G.z_all (ab_cons (d_b (n_d (n_lc rfl nd (i_seq rfl (dv 0)) (blkOk_by (own := [("stair", 1)]) (by kernel_rfl)) (fun _ _ _ _ _ => (gn 1 nd)) (fun _ _ _ _ _ => ts_nil) (fun _ _ _ _ _ => (d_call (ok_is_stair G) (hr.mono (by decide)) (by rfl) G.g_is_stair G.F_is_stair.kp G.b_is_stair (a_cons (dv 1) a_nil) rfl (eCons_len (fun _ _ _ _ h => eNil_len h)))) (by decide)))) ab_nil))))))).pt (ss_one s_stuck) ss_nil)
    (ss_one (s_ret (n_d (n_lc rfl nd (i_seq rfl (dv 0)) (blkOk_by (own := [("stair", 1)]) (by kernel_rfl)) (fun _ _ _ _ _ => (gn 1 nd)) (fun _ _ _ _ _ => ts_nil) (fun _ _ _ _ _ => (d_call (ok_fixed_stair G) (hr.mono (by decide)) (by rfl) G.g_fixed_stair G.F_fixed_stair.kp G.b_fixed_stair (a_cons (dv 1) a_nil) rfl (eCons_len (fun _ _ _ _ h => eNil_len h)))) (by decide))))))
theorem ok_need_count {P : Program} {w : World} {K : PySem.W.Frag} {mg : Str → Option Value} {base : Heap} (G : GG K mg) : FnOk P w K mg base CX0 3 G.f_need_count G.fd_need_count ["count", "most"] (spD K 2 φ_need_count) :=
  fn_data (k := 2) G.F_need_count sc_need_count fun cdv A outer s H E B hr => by
    have hu := hr.units
    have nd := sc_need_count.nd
    exact (ss_one (s_if (t_not (q_tru (d_b (d_call (ok_is_between G) (hr.mono (by decide)) (by rfl) G.g_is_between G.F_is_between.kp G.b_is_between (a_cons (dv 0) (a_cons d_int (a_cons (dv 1) a_nil))) rfl (eCons_len (eCons_len (eCons_len (fun _ _ _ _ h => eNil_len h)))))))) (ss_one s_stuck) ss_nil))
theorem ok_need_limit {P : Program} {w : World} {K : PySem.W.Frag} {mg : Str → Option Value} {base : Heap} (G : GG K mg) : FnOk P w K mg base CX0 3 G.f_need_limit G.fd_need_limit ["limit"] (spD K 1 φ_need_limit) :=
  fn_data (k := 2) G.F_need_limit sc_need_limit fun cdv A outer s H E B hr => by
    have hu := hr.units
    have nd := sc_need_limit.nd
    exact (ss_one (s_if (t_not (q_tru (d_b (d_call (ok_is_between G) (hr.mono (by decide)) (by rfl) G.g_is_between G.F_is_between.kp G.b_is_between (a_cons (dv 0) (a_cons d_int (a_cons (d_gint G.c_MOST_LIMIT) a_nil))) rfl (eCons_len (eCons_len (eCons_len (fun _ _ _ _ h => eNil_len h)))))))) (ss_one s_stuck) ss_nil))
theorem ok_number_at {P : Program} {w : World} {K : PySem.W.Frag} {mg : Str → Option Value} {base : Heap} (G : GG K mg) : FnOk P w K mg base CX0 6 G.f_number_at G.fd_number_at ["stair", "limit"] (spD K 2 φ_number_at) :=
  fn_data (k := 5) G.F_number_at sc_number_at fun cdv A outer s H E B hr => by
    have hu := hr.units
    have nd := sc_number_at.nd
    exact (ss_cons (s_set (ps_set (i := 2) nd rfl (Or.inl rfl) (d_call (ok_need_stair G) (hr.mono (by decide)) (by rfl) G.g_need_stair G.F_need_stair.kp G.b_need_stair (a_cons (dv 0) a_nil) rfl (eCons_len (fun _ _ _ _ h => eNil_len h)))))
    (ss_cons (s_drop (d_call (ok_need_limit G) (hr.mono (by decide)) (by rfl) G.g_need_limit G.F_need_limit.kp G.b_need_limit (a_cons (dv 1) a_nil) rfl (eCons_len (fun _ _ _ _ h => eNil_len h))))
    (ss_one (s_ret (d_call (ok_number_in G) (hr.mono (by decide)) (by rfl) G.g_number_in G.F_number_in.kp G.b_number_in (a_cons (dv 2) (a_cons (dv 1) a_nil)) rfl (eCons_len (eCons_len (fun _ _ _ _ h => eNil_len h))))))))
theorem ok_least_limit {P : Program} {w : World} {K : PySem.W.Frag} {mg : Str → Option Value} {base : Heap} (G : GG K mg) : FnOk P w K mg base CX0 6 G.f_least_limit G.fd_least_limit ["stair", "count"] (spD K 2 φ_least_limit) :=
  fn_data (k := 5) G.F_least_limit sc_least_limit fun cdv A outer s H E B hr => by
    have hu := hr.units
    have nd := sc_least_limit.nd
    exact (ss_cons (s_set (ps_set (i := 2) nd rfl (Or.inl rfl) (d_call (ok_need_stair G) (hr.mono (by decide)) (by rfl) G.g_need_stair G.F_need_stair.kp G.b_need_stair (a_cons (dv 0) a_nil) rfl (eCons_len (fun _ _ _ _ h => eNil_len h)))))
    (ss_cons (s_drop (d_call (ok_need_count G) (hr.mono (by decide)) (by rfl) G.g_need_count G.F_need_count.kp G.b_need_count (a_cons (dv 1) (a_cons (d_gint G.c_MOST_LIMIT) a_nil)) rfl (eCons_len (eCons_len (fun _ _ _ _ h => eNil_len h)))))
    (ss_one (s_ret (d_call (ok_least_in G) (hr.mono (by decide)) (by rfl) G.g_least_in G.F_least_in.kp G.b_least_in (a_cons (dv 2) (a_cons (dv 1) a_nil)) rfl (eCons_len (eCons_len (fun _ _ _ _ h => eNil_len h))))))))
theorem ok_quiet_of {P : Program} {w : World} {K : PySem.W.Frag} {mg : Str → Option Value} {base : Heap} (G : GG K mg) : FnOk P w K mg base CX0 6 G.f_quiet_of G.fd_quiet_of ["stair"] (spD K 1 φ_quiet_of) :=
  fn_data (k := 5) G.F_quiet_of sc_quiet_of fun cdv A outer s H E B hr => by
    have hu := hr.units
    have nd := sc_quiet_of.nd
    exact (ss_one (s_ret (d_call (ok_quiet_in G) (hr.mono (by decide)) (by rfl) G.g_quiet_in G.F_quiet_in.kp G.b_quiet_in (a_cons (d_call (ok_need_stair G) (hr.mono (by decide)) (by rfl) G.g_need_stair G.F_need_stair.kp G.b_need_stair (a_cons (dv 0) a_nil) rfl (eCons_len (fun _ _ _ _ h => eNil_len h))) a_nil) rfl (eCons_len (fun _ _ _ _ h => eNil_len h)))))
theorem ok_least_of {P : Program} {w : World} {K : PySem.W.Frag} {mg : Str → Option Value} {base : Heap} (G : GG K mg) : FnOk P w K mg base CX0 6 G.f_least_of G.fd_least_of ["stairs"] (spD K 1 φ_least_of) :=
  fn_data (k := 5) G.F_least_of sc_least_of fun cdv A outer s H E B hr => by
    have hu := hr.units
    have nd := sc_least_of.nd
    exact (ss_one (s_ret (d_call (ok_least_among G) (hr.mono (by decide)) (by rfl) G.g_least_among G.F_least_among.kp G.b_least_among (a_cons (d_call (ok_need_stairs G) (hr.mono (by decide)) (by rfl) G.g_need_stairs G.F_need_stairs.kp G.b_need_stairs (a_cons (dv 0) a_nil) rfl (eCons_len (fun _ _ _ _ h => eNil_len h))) a_nil) rfl (eCons_len (fun _ _ _ _ h => eNil_len h)))))
theorem ok_greatest_of {P : Program} {w : World} {K : PySem.W.Frag} {mg : Str → Option Value} {base : Heap} (G : GG K mg) : FnOk P w K mg base CX0 6 G.f_greatest_of G.fd_greatest_of ["stairs"] (spD K 1 φ_greatest_of) :=
  fn_data (k := 5) G.F_greatest_of sc_greatest_of fun cdv A outer s H E B hr => by
    have hu := hr.units
    have nd := sc_greatest_of.nd
    exact (ss_one (s_ret (d_call (ok_greatest_among G) (hr.mono (by decide)) (by rfl) G.g_greatest_among G.F_greatest_among.kp G.b_greatest_among (a_cons (d_call (ok_need_stairs G) (hr.mono (by decide)) (by rfl) G.g_need_stairs G.F_need_stairs.kp G.b_need_stairs (a_cons (dv 0) a_nil) rfl (eCons_len (fun _ _ _ _ h => eNil_len h))) a_nil) rfl (eCons_len (fun _ _ _ _ h => eNil_len h)))))
theorem ok__law_pen {P : Program} {w : World} {K : PySem.W.Frag} {mg : Str → Option Value} {base : Heap} (G : GG K mg) : FnOk P w K mg base CX0 1 G.f__law_pen G.fd__law_pen ["script"] (spD K 1 φ__law_pen) :=
  fn_data (k := 0) G.F__law_pen sc__law_pen fun cdv A outer s H E B hr => by
    have hu := hr.units
    have nd := sc__law_pen.nd
    exact (ss_one (s_ret (d_mu (n_lst (a_cons (n_d (n_lc rfl nd (i_seq rfl (d_slice rfl (bv 0) po_no (po_so d_int))) (blkOk_by (own := [("cell", 1)]) (by kernel_rfl)) (fun _ _ _ _ _ => (gn 1 nd)) (fun _ _ _ _ _ => ts_nil) (fun _ _ _ _ _ => (c_int G.z_int (ab_cons (bv 1) ab_nil))) (by decide))) (a_cons d_int (a_cons d_int a_nil)))))))
theorem ok__law_draw {P : Program} {w : World} {K : PySem.W.Frag} {mg : Str → Option Value} {base : Heap} (G : GG K mg) : FnOk P w K mg base CX0 1 G.f__law_draw G.fd__law_draw ["pen", "many"] (spD K 2 φ__law_draw) :=
  fn_data (k := 0) G.F__law_draw sc__law_draw fun cdv A outer s H E B hr => by
    have hu := hr.units
    have nd := sc__law_draw.nd
    exact (ss_cons (s_if (q_cmp k_gt (d_b (c_ix (bv 0) (d_b d_int))) (d_b d_int)) (ss_cons (s_set (ps_set (i := 2) nd rfl (Or.inl rfl) (c_int G.z_int (ab_cons (d_b (c_ix (bv 0) (d_b d_int))) ab_nil))))
    (ss_cons (s_storeA (c_fdiv (bv 2) (bv 1)) (dv 0) d_int)
    (ss_one (s_ret (c_mod (d_b (c_int G.z_int (ab_cons (bv 2) ab_nil))) (bv 1)))))) ss_nil)
    (ss_cons (s_set (ps_set (i := 3) nd rfl (Or.inl rfl) (c_ix (bv 0) (d_b d_int))))
    (ss_cons (s_storeA (c_add (bv 3) (d_b d_int)) (dv 0) d_int)
    (ss_cons (s_set (ps_set (i := 4) nd rfl (Or.inl rfl) (c_add (d_b (c_mul (d_b d_int) (bv 3))) (d_b d_int))))
    (ss_cons (s_if (q_cmp (k_ne hu) (d_b (c_ix (bv 0) (d_b d_int))) (d_b (n_d (n_lst a_nil)))) (ss_one (s_set (ps_set (i := 4) nd rfl (Or.inl rfl) (c_ix (d_b (c_ix (bv 0) (d_b d_int))) (d_b (c_mod (d_b (c_int G.z_int (ab_cons (bv 3) ab_nil))) (d_b (c_len G.z_len (ab_cons (d_b (c_ix (bv 0) (d_b d_int))) ab_nil))))))))) ss_nil)
    (ss_cons (s_if (w_and (q_cmp k_lt (bv 3) (d_b (c_len G.z_len (ab_cons (d_b (c_ix (bv 0) (d_b d_int))) ab_nil)))) (w_and1 (q_cmp k_ge (d_b (c_abs G.z_abs (ab_cons (bv 4) ab_nil))) (d_b (c_pow (d_b d_int) (d_b d_int)))))).pt (ss_cons (s_set (ps_set (i := 2) nd rfl (Or.inl rfl) (c_add (d_b (c_mul (d_b d_int) (d_b (c_sub (d_b (c_abs G.z_abs (ab_cons (bv 4) ab_nil))) (d_b (c_pow (d_b d_int) (d_b d_int))))))) (d_b (c_int G.z_int (ab_cons (d_b (c_cmp k_lt (bv 4) (d_b d_int))) ab_nil))))))
    (ss_cons (s_storeA (c_fdiv (d_b (c_int G.z_int (ab_cons (bv 2) ab_nil))) (bv 1)) (dv 0) d_int)
    (ss_one (s_ret (c_mod (d_b (c_int G.z_int (ab_cons (bv 2) ab_nil))) (bv 1)))))) ss_nil)
    (ss_cons (s_set (ps_set (i := 5) nd rfl (Or.inl rfl) (c_mod (d_b (c_int G.z_int (ab_cons (d_b (c_pow (d_b (c_add (d_b (c_add (d_b (c_mod (d_b (c_int G.z_int (ab_cons (bv 4) ab_nil))) (d_b d_int))) (d_b (c_mul (d_b d_int) (bv 3))))) (d_b d_int))) (d_b d_int))) ab_nil))) (d_b d_int))))
    (ss_cons (s_set (ps_set (i := 5) nd rfl (Or.inl rfl) (c_mod (d_b (c_int G.z_int (ab_cons (d_b (c_pow (d_b (c_add (d_b (c_add (d_b (c_mul (bv 5) (d_b (c_add (d_b (c_mul (d_b d_int) (bv 3))) (d_b d_int))))) (d_b (c_mul (d_b (c_mul (d_b d_int) (bv 3))) (bv 3))))) (d_b d_int))) (d_b d_int))) ab_nil))) (d_b d_int))))
    (ss_one (s_ret (c_mod (d_b (c_int G.z_int (ab_cons (d_b (c_fdiv (bv 5) (d_b d_int))) ab_nil))) (bv 1))))))))))))
theorem ok__law_pick {P : Program} {w : World} {K : PySem.W.Frag} {mg : Str → Option Value} {base : Heap} (G : GG K mg) : FnOk P w K mg base CX0 2 G.f__law_pick G.fd__law_pick ["pen", "some"] (spD K 2 φ__law_pick) :=
  fn_data (k := 1) G.F__law_pick sc__law_pick fun cdv A outer s H E B hr => by
    have hu := hr.units
    have nd := sc__law_pick.nd
    exact (ss_one (s_ret (c_ix (bv 1) (d_b (d_call (ok__law_draw G) (hr.mono (by decide)) (by rfl) G.g__law_draw G.F__law_draw.kp G.b__law_draw (a_cons (dv 0) (a_cons (c_len G.z_len (ab_cons (bv 1) ab_nil)) a_nil)) rfl (eCons_len (eCons_len (fun _ _ _ _ h => eNil_len h))))))))
theorem ok__law_cut {P : Program} {w : World} {K : PySem.W.Frag} {mg : Str → Option Value} {base : Heap} (G : GG K mg) : FnOk P w K mg base CX0 1 G.f__law_cut G.fd__law_cut ["corners"] (spD K 1 φ__law_cut) :=
  fn_data (k := 0) G.F__law_cut sc__law_cut fun cdv A outer s H E B hr => by
    have hu := hr.units
    have nd := sc__law_cut.nd
    exact (ss_cons (s_set (ps_set (i := 1) nd rfl (Or.inl rfl) (n_d (c_sorted hu G.z_sorted (ab_cons (d_b (n_d (n_lc rfl nd (i_seq rfl (dv 0)) (blkOk_by (own := [("limit", 2), ("number", 3)]) (by kernel_rfl)) (fun _ _ _ _ _ => (g_tup rfl rfl (gs_cons (gn 2 nd) (gs_cons (gn 3 nd) gs_nil)))) (fun _ _ _ _ _ => ts_nil) (fun _ _ _ _ _ => (d_tup (a_cons (c_max2 rfl G.z_max (ab_cons (bv 2) (ab_cons (bv 3) ab_nil))) (a_cons (dv 3) a_nil)))) (by decide)))) ab_nil)))))
    (ss_cons (s_new (ps_set (i := 4) nd rfl (Or.inl rfl) (n_lst a_nil)))
    (ss_cons (s_for PassesOwn.never rfl (i_seq rfl (dv 1)) (g_tup rfl rfl (gs_cons (gn 2 nd) (gs_cons (gn 3 nd) gs_nil))) (ss_one (s_if (w_or (q_cmp (k_eq hu) (bv 4) (d_b (n_d (n_lst a_nil)))) (w_or1 (q_cmp k_lt (bv 3) (d_b (c_ix (d_b (c_ix (bv 4) (d_b (d_neg (d_b d_int))))) (d_b d_int)))))).pt (ss_cons (s_if (w_and (q_cmp (k_ne hu) (bv 4) (d_b (n_d (n_lst a_nil)))) (w_and1 (q_cmp (k_eq hu) (d_b (c_ix (d_b (c_ix (bv 4) (d_b (d_neg (d_b d_int))))) (d_b d_int))) (bv 2)))).pt (ss_one (s_popA (dvv 4))) ss_nil)
    (ss_one (s_appA (dvv 4) (d_tup (a_cons (dv 2) (a_cons (dv 3) a_nil)))))) ss_nil)))
    (ss_one (s_ret (c_tuple G.z_tuple (ab_cons (bv 4) ab_nil)))))))
theorem ok__law_by_limits {P : Program} {w : World} {K : PySem.W.Frag} {mg : Str → Option Value} {base : Heap} (G : GG K mg) : FnOk P w K mg base CX0 1 G.f__law_by_limits G.fd__law_by_limits ["pairs", "most"] (spD K 2 φ__law_by_limits) :=
  fn_data (k := 0) G.F__law_by_limits sc__law_by_limits fun cdv A outer s H E B hr => by
    have hu := hr.units
    have nd := sc__law_by_limits.nd
    exact (ss_cons (s_new (ps_set (i := 2) nd rfl (Or.inl rfl) (n_lst a_nil)))
    (ss_cons (s_for PassesOwn.never rfl (i_range2 (by rfl) G.z_range d_int (c_add (bv 1) (d_b d_int))) (gn 3 nd) (ss_cons (s_setN (s_newLc (i := 4) rfl nd rfl rfl (sw_true rfl rfl rfl (by decide +kernel)) (i_seq rfl (dv 0)) (blkOk_by (own := [("first", 5), ("number", 6)]) (by kernel_rfl)) (fun _ _ _ _ _ => (g_tup rfl rfl (gs_cons (gn 5 nd) (gs_cons (gn 6 nd) gs_nil)))) (fun _ _ _ _ _ => ts_one (w_and (q_cmp k_le (bv 5) (bv 3)) (w_and1 (q_cmp k_le (bv 6) (bv 3)))).pt) (fun _ _ _ _ _ => (dv 6)) (by decide)))
    (ss_one (s_appA (dvv 2) (d_if (q_cmp (k_ne hu) (bv 4) (d_b (n_d (n_lst a_nil)))) (c_min1 rfl hu G.z_min (ab_cons (bv 4) ab_nil)) d_non)))))
    (ss_frz (i := 2) (ss_one (s_ret (dv 2))))))
theorem ok__law_of_limits {P : Program} {w : World} {K : PySem.W.Frag} {mg : Str → Option Value} {base : Heap} (G : GG K mg) : FnOk P w K mg base CX0 1 G.f__law_of_limits G.fd__law_of_limits ["row"] (spD K 1 φ__law_of_limits) :=
  fn_data (k := 0) G.F__law_of_limits sc__law_of_limits fun cdv A outer s H E B hr => by
    have hu := hr.units
    have nd := sc__law_of_limits.nd
    exact (ss_cons (s_new (ps_set (i := 1) nd rfl (Or.inl rfl) (n_lst a_nil)))
    (ss_cons (s_for PassesOwn.never rfl (i_seq rfl (n_d (n_listEn rfl rfl (by rfl) G.z_list (by rfl) G.z_enumerate (d_b (n_d (n_cat (n_lst (a_cons d_non a_nil)) (c_list G.z_list (ab_cons (bv 0) ab_nil)))))))) (g_tup rfl rfl (gs_cons (gn 2 nd) (gs_cons (gn 3 nd) gs_nil))) (ss_one (s_if (w_and (q_cmp k_isnot (bv 3) (d_b d_non)) (w_and (q_cmp k_le (bv 3) (bv 2)) (w_and1 (w_or (q_cmp (k_eq hu) (bv 1) (d_b (n_d (n_lst a_nil)))) (w_or1 (q_cmp k_lt (bv 3) (d_b (c_ix (d_b (c_ix (bv 1) (d_b (d_neg (d_b d_int))))) (d_b d_int)))))).pt))).pt (ss_one (s_appA (dvv 1) (d_tup (a_cons (dv 2) (a_cons (dv 3) a_nil))))) ss_nil)))
    (ss_one (s_ret (c_tuple G.z_tuple (ab_cons (bv 1) ab_nil))))))
theorem ok__law_pairs {P : Program} {w : World} {K : PySem.W.Frag} {mg : Str → Option Value} {base : Heap} (G : GG K mg) : FnOk P w K mg base CX0 3 G.f__law_pairs G.fd__law_pairs ["pen", "most"] (spD K 2 φ__law_pairs) :=
  fn_data (k := 2) G.F__law_pairs sc__law_pairs fun cdv A outer s H E B hr => by
    have hu := hr.units
    have nd := sc__law_pairs.nd
    exact (ss_one (s_ret (n_d (n_lc rfl nd (i_range1 (by rfl) G.z_range (d_call (ok__law_pick G) (hr.mono (by decide)) (by rfl) G.g__law_pick G.F__law_pick.kp G.b__law_pick (a_cons (dv 0) (a_cons (n_d (n_lst (a_cons d_int (a_cons d_int (a_cons d_int (a_cons d_int (a_cons d_int (a_cons d_int (a_cons d_int a_nil))))))))) a_nil)) rfl (eCons_len (eCons_len (fun _ _ _ _ h => eNil_len h))))) (blkOk_by (own := [("turn", 2)]) (by kernel_rfl)) (fun _ _ _ _ _ => (gn 2 nd)) (fun _ _ _ _ _ => ts_nil) (fun _ _ _ _ _ => (d_tup (a_cons (c_add (d_b d_int) (d_b (d_call (ok__law_draw G) (hr.mono (by decide)) (by rfl) G.g__law_draw G.F__law_draw.kp G.b__law_draw (a_cons (dv 0) (a_cons (dv 1) a_nil)) rfl (eCons_len (eCons_len (fun _ _ _ _ h => eNil_len h)))))) (a_cons (d_call (ok__law_draw G) (hr.mono (by decide)) (by rfl) G.g__law_draw G.F__law_draw.kp G.b__law_draw (a_cons (dv 0) (a_cons (c_add (bv 1) (d_b d_int)) a_nil)) rfl (eCons_len (eCons_len (fun _ _ _ _ h => eNil_len h)))) a_nil)))) (by decide)))))
theorem ok__law_most {P : Program} {w : World} {K : PySem.W.Frag} {mg : Str → Option Value} {base : Heap} (G : GG K mg) : FnOk P w K mg base CX0 1 G.f__law_most G.fd__law_most ["stairs"] (spD K 1 φ__law_most) :=
  fn_data (k := 0) G.F__law_most sc__law_most fun cdv A outer s H E B hr => by
    have hu := hr.units
    have nd := sc__law_most.nd
    exact (ss_one (s_ret (c_add (d_b d_int) (d_b (c_max1 rfl hu G.z_max (ab_cons (d_b (n_d (n_cat (n_lst (a_cons d_int a_nil)) (n_lc rfl nd (i_seq rfl (dv 0)) (blkOk_by (own := [("stair", 1)]) (by kernel_rfl)) (fun _ _ _ _ _ => (gn 1 nd)) (fun _ _ _ _ _ => ts_one (q_cmp k_gt (d_b (c_len G.z_len (ab_cons (bv 1) ab_nil))) (d_b d_int))) (fun _ _ _ _ _ => (c_max1 rfl hu G.z_max (ab_cons (d_b (n_d (n_lc rfl nd (i_seq rfl (dv 1)) (blkOk_by (own := [("corner", 2)]) (by kernel_rfl)) (fun _ _ _ _ _ => (gn 2 nd)) (fun _ _ _ _ _ => ts_nil) (fun _ _ _ _ _ => (c_max1 rfl hu G.z_max (ab_cons (bv 2) ab_nil))) (by decide)))) ab_nil))) (by decide))))) ab_nil))))))
theorem ok__law_stair {P : Program} {w : World} {K : PySem.W.Frag} {mg : Str → Option Value} {base : Heap} (G : GG K mg) : FnOk P w K mg base CX0 4 G.f__law_stair G.fd__law_stair ["pen", "most"] (spD K 2 φ__law_stair) :=
  fn_data (k := 3) G.F__law_stair sc__law_stair fun cdv A outer s H E B hr => by
    have hu := hr.units
    have nd := sc__law_stair.nd
    exact (ss_cons (s_set (ps_set (i := 2) nd rfl (Or.inl rfl) (d_call (ok__law_pairs G) (hr.mono (by decide)) (by rfl) G.g__law_pairs G.F__law_pairs.kp G.b__law_pairs (a_cons (dv 0) (a_cons (dv 1) a_nil)) rfl (eCons_len (eCons_len (fun _ _ _ _ h => eNil_len h))))))
    (ss_one (s_ret (d_call (ok__law_of_limits G) (hr.mono (by decide)) (by rfl) G.g__law_of_limits G.F__law_of_limits.kp G.b__law_of_limits (a_cons (d_call (ok__law_by_limits G) (hr.mono (by decide)) (by rfl) G.g__law_by_limits G.F__law_by_limits.kp G.b__law_by_limits (a_cons (dv 2) (a_cons (d_call (ok__law_most G) (hr.mono (by decide)) (by rfl) G.g__law_most G.F__law_most.kp G.b__law_most (a_cons (n_d (n_lst (a_cons (dv 2) a_nil))) a_nil) rfl (eCons_len (fun _ _ _ _ h => eNil_len h))) a_nil)) rfl (eCons_len (eCons_len (fun _ _ _ _ h => eNil_len h)))) a_nil) rfl (eCons_len (fun _ _ _ _ h => eNil_len h))))))
theorem ok__law_some_stair {P : Program} {w : World} {K : PySem.W.Frag} {mg : Str → Option Value} {base : Heap} (G : GG K mg) : FnOk P w K mg base CX0 5 G.f__law_some_stair G.fd__law_some_stair ["pen", "most"] (spD K 2 φ__law_some_stair) :=
  fn_data (k := 4) G.F__law_some_stair sc__law_some_stair fun cdv A outer s H E B hr => by
    have hu := hr.units
    have nd := sc__law_some_stair.nd
    exact (ss_cons (s_set (ps_set (i := 2) nd rfl (Or.inl rfl) (d_call (ok__law_stair G) (hr.mono (by decide)) (by rfl) G.g__law_stair G.F__law_stair.kp G.b__law_stair (a_cons (dv 0) (a_cons (dv 1) a_nil)) rfl (eCons_len (eCons_len (fun _ _ _ _ h => eNil_len h))))))
    (ss_one (s_ret (d_if (q_cmp (k_ne hu) (bv 2) (d_b (d_tup a_nil))) (dv 2) (d_tup (a_cons (d_tup (a_cons (c_add (d_b d_int) (d_b (d_call (ok__law_draw G) (hr.mono (by decide)) (by rfl) G.g__law_draw G.F__law_draw.kp G.b__law_draw (a_cons (dv 0) (a_cons (dv 1) a_nil)) rfl (eCons_len (eCons_len (fun _ _ _ _ h => eNil_len h)))))) (a_cons d_int a_nil))) a_nil))))))
theorem ok_law {P : Program} {w : World} {K : PySem.W.Frag} {mg : Str → Option Value} {base : Heap} (G : GG K mg) : FnOk P w K mg base CX0 7 G.f_law G.fd_law ["script"] (spD K 1 φ_law) :=
  fn_data (k := 6) G.F_law sc_law fun cdv A outer s H E B hr => by
    have hu := hr.units
    have nd := sc_law.nd
    exact (ss_cons (s_set (ps_set (i := 1) nd rfl (Or.inr rfl) (d_call (ok__law_pen G) (hr.mono (by decide)) (by rfl) G.g__law_pen G.F__law_pen.kp G.b__law_pen (a_cons (dv 0) a_nil) rfl (eCons_len (fun _ _ _ _ h => eNil_len h)))))
    (ss_cons (s_for PassesOwn.never rfl (i_range1 (by rfl) G.z_range d_int) (gn 2 nd) (ss_cons (s_set (ps_set (i := 3) nd rfl (Or.inr rfl) (d_call (ok__law_some_stair G) (hr.mono (by decide)) (by rfl) G.g__law_some_stair G.F__law_some_stair.kp G.b__law_some_stair (a_cons (dv 1) (a_cons d_int a_nil)) rfl (eCons_len (eCons_len (fun _ _ _ _ h => eNil_len h))))))
    (ss_cons (s_set (ps_set (i := 4) nd rfl (Or.inr rfl) (d_call (ok__law_some_stair G) (hr.mono (by decide)) (by rfl) G.g__law_some_stair G.F__law_some_stair.kp G.b__law_some_stair (a_cons (dv 1) (a_cons d_int a_nil)) rfl (eCons_len (eCons_len (fun _ _ _ _ h => eNil_len h))))))
    (ss_cons (s_if (q_cmp (k_eq hu) (d_b (d_call (ok__law_draw G) (hr.mono (by decide)) (by rfl) G.g__law_draw G.F__law_draw.kp G.b__law_draw (a_cons (dv 1) (a_cons d_int a_nil)) rfl (eCons_len (eCons_len (fun _ _ _ _ h => eNil_len h))))) (d_b d_int)) (ss_cons (s_set (ps_set (i := 5) nd rfl (Or.inr rfl) (d_call (ok__law_draw G) (hr.mono (by decide)) (by rfl) G.g__law_draw G.F__law_draw.kp G.b__law_draw (a_cons (dv 1) (a_cons (c_len G.z_len (ab_cons (bv 3) ab_nil)) a_nil)) rfl (eCons_len (eCons_len (fun _ _ _ _ h => eNil_len h))))))
    (ss_one (s_set (ps_set (i := 4) nd rfl (Or.inr rfl) (d_call (ok__law_cut G) (hr.mono (by decide)) (by rfl) G.g__law_cut G.F__law_cut.kp G.b__law_cut (a_cons (n_d (n_lc rfl nd (i_enum rfl (by rfl) G.z_enumerate (dv 3)) (blkOk_by (own := [("spot", 6), ("corner", 7)]) (by kernel_rfl)) (fun _ _ _ _ _ => (g_tup rfl rfl (gs_cons (gn 6 nd) (gs_cons (gn 7 nd) gs_nil)))) (fun _ _ _ _ _ => ts_nil) (fun _ _ _ _ _ => (d_if (q_cmp (k_ne hu) (bv 6) (bv 5)) (dv 7) (d_tup (a_cons (c_add (d_b (c_ix (bv 7) (d_b d_int))) (d_b (d_call (ok__law_draw G) (hr.mono (by decide)) (by rfl) G.g__law_draw G.F__law_draw.kp G.b__law_draw (a_cons (dv 1) (a_cons d_int a_nil)) rfl (eCons_len (eCons_len (fun _ _ _ _ h => eNil_len h)))))) (a_cons (c_max2 rfl G.z_max (ab_cons (d_b d_int) (ab_cons (d_b (c_sub (d_b (c_ix (bv 7) (d_b d_int))) (d_b (d_call (ok__law_draw G) (hr.mono (by decide)) (by rfl) G.g__law_draw G.F__law_draw.kp G.b__law_draw (a_cons (dv 1) (a_cons d_int a_nil)) rfl (eCons_len (eCons_len (fun _ _ _ _ h => eNil_len h))))))) ab_nil))) a_nil))))) (by decide))) a_nil) rfl (eCons_len (fun _ _ _ _ h => eNil_len h))))))) ss_nil)
    (ss_cons (s_set (ps_set (i := 8) nd rfl (Or.inr rfl) (d_call (ok__law_most G) (hr.mono (by decide)) (by rfl) G.g__law_most G.F__law_most.kp G.b__law_most (a_cons (n_d (n_lst (a_cons (dv 3) (a_cons (dv 4) a_nil)))) a_nil) rfl (eCons_len (fun _ _ _ _ h => eNil_len h)))))
    (ss_cons (s_asgT (ps_asg (n_d (n_lc rfl nd (i_seq rfl (d_tup (a_cons (dv 3) (a_cons (dv 4) a_nil)))) (blkOk_by (own := [("stair", 11)]) (by kernel_rfl)) (fun _ _ _ _ _ => (gn 11 nd)) (fun _ _ _ _ _ => ts_nil) (fun _ _ _ _ _ => (n_d (n_lc rfl nd (i_range1 (by rfl) G.z_range (c_mul (d_b d_int) (bv 8))) (blkOk_by (own := [("count", 12)]) (by kernel_rfl)) (fun _ _ _ _ _ => (gn 12 nd)) (fun _ _ _ _ _ => ts_nil) (fun _ _ _ _ _ => (d_call (ok_least_limit G) (hr.mono (by decide)) (by rfl) G.g_least_limit G.F_least_limit.kp G.b_least_limit (a_cons (dv 11) (a_cons (dv 12) a_nil)) rfl (eCons_len (eCons_len (fun _ _ _ _ h => eNil_len h))))) (by decide)))) (by decide))) (g_tup rfl rfl (gs_cons (gn 9 nd) (gs_cons (gn 10 nd) gs_nil)))))
    (ss_cons (s_if (w_or (q_cmp (k_ne hu) (d_b (c_cmp (k_eq hu) (bv 9) (bv 10))) (d_b (c_cmp (k_eq hu) (bv 3) (bv 4)))) (w_or (q_cmp (k_ne hu) (d_b (n_d (c_sorted hu G.z_sorted (ab_cons (bv 9) ab_nil)))) (bv 9)) (w_or1 (q_cmp (k_ne hu) (d_b (c_ix (bv 9) (d_b d_int))) (d_b (c_ix (d_b (c_ix (bv 3) (d_b d_int))) (d_b d_int))))))).pt (ss_one (s_ret d_bl)) ss_nil)
    (ss_cons (s_for PassesOwn.never rfl (i_range2 (by rfl) G.z_range d_int (dv 8)) (gn 13 nd) (ss_cons (s_setN (s_newLc (i := 14) rfl nd rfl rfl (sw_true rfl rfl rfl (by decide +kernel)) (i_enum rfl (by rfl) G.z_enumerate (dv 9)) (blkOk_by (own := [("count", 12), ("told", 15)]) (by kernel_rfl)) (fun _ _ _ _ _ => (g_tup rfl rfl (gs_cons (gn 12 nd) (gs_cons (gn 15 nd) gs_nil)))) (fun _ _ _ _ _ => ts_one (q_cmp k_le (bv 15) (bv 13))) (fun _ _ _ _ _ => (dv 12)) (by decide)))
    (ss_cons (s_set (ps_set (i := 16) nd rfl (Or.inl rfl) (d_if (q_cmp (k_ne hu) (bv 14) (d_b (n_d (n_lst a_nil)))) (c_sub (bv 13) (d_b (c_ix (bv 14) (d_b (d_neg (d_b d_int)))))) d_non)))
    (ss_one (s_if (q_cmp (k_ne hu) (d_b (d_call (ok_number_at G) (hr.mono (by decide)) (by rfl) G.g_number_at G.F_number_at.kp G.b_number_at (a_cons (dv 3) (a_cons (dv 13) a_nil)) rfl (eCons_len (eCons_len (fun _ _ _ _ h => eNil_len h))))) (bv 16)) (ss_one (s_ret d_bl)) ss_nil)))))
    (ss_cons (s_if (q_cmp (k_ne hu) (d_b (n_d (n_lc rfl nd (i_range1 (by rfl) G.z_range (dv 8)) (blkOk_by (own := [("count", 12)]) (by kernel_rfl)) (fun _ _ _ _ _ => (gn 12 nd)) (fun _ _ _ _ _ => ts_nil) (fun _ _ _ _ _ => (d_call (ok_least_limit G) (hr.mono (by decide)) (by rfl) G.g_least_limit G.F_least_limit.kp G.b_least_limit (a_cons (d_call (ok_quiet_of G) (hr.mono (by decide)) (by rfl) G.g_quiet_of G.F_quiet_of.kp G.b_quiet_of (a_cons (dv 3) a_nil) rfl (eCons_len (fun _ _ _ _ h => eNil_len h))) (a_cons (dv 12) a_nil)) rfl (eCons_len (eCons_len (fun _ _ _ _ h => eNil_len h))))) (by decide)))) (d_b (d_slice rfl (bv 9) (po_so d_int) (po_so (c_add (bv 8) (d_b d_int)))))) (ss_one (s_ret d_bl)) ss_nil)
    (ss_cons (s_if (q_cmp (k_ne hu) (d_b (n_d (n_lc rfl nd (i_range1 (by rfl) G.z_range (dv 8)) (blkOk_by (own := [("count", 12)]) (by kernel_rfl)) (fun _ _ _ _ _ => (gn 12 nd)) (fun _ _ _ _ _ => ts_nil) (fun _ _ _ _ _ => (d_call (ok_least_limit G) (hr.mono (by decide)) (by rfl) G.g_least_limit G.F_least_limit.kp G.b_least_limit (a_cons (d_call (ok_least_of G) (hr.mono (by decide)) (by rfl) G.g_least_of G.F_least_of.kp G.b_least_of (a_cons (n_d (n_lst (a_cons (dv 3) (a_cons (dv 4) a_nil)))) a_nil) rfl (eCons_len (fun _ _ _ _ h => eNil_len h))) (a_cons (dv 12) a_nil)) rfl (eCons_len (eCons_len (fun _ _ _ _ h => eNil_len h))))) (by decide)))) (d_b (n_d (n_lc rfl nd (i_seq rfl (d_slice rfl (d_b (n_d (n_listZi rfl rfl (by rfl) G.z_list (by rfl) G.z_zip (bv 9) (bv 10)))) po_no (po_so (dv 8)))) (blkOk_by (own := [("pair", 17)]) (by kernel_rfl)) (fun _ _ _ _ _ => (gn 17 nd)) (fun _ _ _ _ _ => ts_nil) (fun _ _ _ _ _ => (c_min1 rfl hu G.z_min (ab_cons (bv 17) ab_nil))) (by decide))))) (ss_one (s_ret d_bl)) ss_nil)
    (ss_one (s_if (q_cmp (k_ne hu) (d_b (n_d (n_lc rfl nd (i_range1 (by rfl) G.z_range (dv 8)) (blkOk_by (own := [("count", 12)]) (by kernel_rfl)) (fun _ _ _ _ _ => (gn 12 nd)) (fun _ _ _ _ _ => ts_nil) (fun _ _ _ _ _ => (d_call (ok_least_limit G) (hr.mono (by decide)) (by rfl) G.g_least_limit G.F_least_limit.kp G.b_least_limit (a_cons (d_call (ok_greatest_of G) (hr.mono (by decide)) (by rfl) G.g_greatest_of G.F_greatest_of.kp G.b_greatest_of (a_cons (n_d (n_lst (a_cons (dv 3) (a_cons (dv 4) a_nil)))) a_nil) rfl (eCons_len (fun _ _ _ _ h => eNil_len h))) (a_cons (dv 12) a_nil)) rfl (eCons_len (eCons_len (fun _ _ _ _ h => eNil_len h))))) (by decide)))) (d_b (n_d (n_lc rfl nd (i_seq rfl (d_slice rfl (d_b (n_d (n_listZi rfl rfl (by rfl) G.z_list (by rfl) G.z_zip (bv 9) (bv 10)))) po_no (po_so (dv 8)))) (blkOk_by (own := [("pair", 17)]) (by kernel_rfl)) (fun _ _ _ _ _ => (gn 17 nd)) (fun _ _ _ _ _ => ts_nil) (fun _ _ _ _ _ => (c_max1 rfl hu G.z_max (ab_cons (bv 17) ab_nil))) (by decide))))) (ss_one (s_ret d_bl)) ss_nil))))))))))))
    (ss_one (s_ret d_bl))))
end DL

/-! Stairs: lists of corners, what is least, cuts. Plain mathematics. -/
namespace DL
open PySem PySem.Spec PyProof.Rows L2
abbrev P2 := Int × Int
/-- one step of a cut -/
def cutStep (found : List P2) (p : P2) : List P2 := match found.getLast? with
  | none => [p]
  | some q => if p.2 < q.2 then found ++ [p] else found
theorem cutStep_nil (p : P2) : cutStep [] p = [p] := rfl
theorem cutStep_snoc (f : List P2) (q p : P2) : cutStep (f ++ [q]) p = if p.2 < q.2 then f ++ [q] ++ [p] else f ++ [q] := by
  unfold cutStep
  rw [List.getLast?_concat]
theorem snoc_of {α : Type} (f : List α) : f = [] ∨ ∃ g q, f = g ++ [q] := by
  cases h : f.getLast? with
  | none => exact .inl (List.getLast?_eq_none_iff.mp h)
  | some q => exact .inr ((List.getLast?_eq_some_iff.mp h).imp fun g e => ⟨q, e⟩)
/-- the corners of pairs, sorted -/
def cornersOf (ps : List P2) : List P2 := (ps.map fun p => (max p.1 p.2, p.2)).mergeSort leP
def cutP (ps : List P2) : List P2 := (cornersOf ps).foldl cutStep []
theorem leP_iff {p q : P2} : leP p q = true ↔ p.1 < q.1 ∨ (p.1 = q.1 ∧ p.2 ≤ q.2) := by unfold leP; rw [decide_eq_true_eq]
theorem corners_sorted (ps : List P2) : (cornersOf ps).Pairwise fun p q => leP p q = true :=
  List.pairwise_mergeSort (fun a b c h1 h2 => by rw [leP_iff] at *; omega) (fun a b => by rw [Bool.or_eq_true, leP_iff, leP_iff]; omega) _
theorem mem_corners {ps : List P2} {q : P2} : q ∈ cornersOf ps ↔ ∃ p ∈ ps, q = (max p.1 p.2, p.2) := by
  unfold cornersOf
  rw [List.mem_mergeSort, List.mem_map]
  exact ⟨fun ⟨p, h, e⟩ => ⟨p, h, e.symm⟩, fun ⟨p, h, e⟩ => ⟨p, h, e.symm⟩⟩
theorem corners_len (ps : List P2) : (cornersOf ps).length = ps.length := by unfold cornersOf; rw [List.length_mergeSort, List.length_map]
def Falls (p q : P2) : Prop := p.1 < q.1 ∧ q.2 < p.2
/-- what is known of a cut's state behind some of the sorted corners -/
structure CutOk (pre found : List P2) : Prop where
  len : found.length ≤ pre.length
  sub : ∀ q ∈ found, q ∈ pre
  cov : ∀ y ∈ pre, ∃ q ∈ found, q.1 ≤ y.1 ∧ q.2 ≤ y.2
  fal : found.Pairwise Falls
theorem CutOk.start : CutOk [] [] := ⟨Nat.le_refl _, fun _ h => h, fun _ h => absurd h (by simp), List.Pairwise.nil⟩
theorem CutOk.next {pre found : List P2} {p : P2} (h : CutOk pre found) (hs : ∀ q ∈ pre, leP q p = true) : CutOk (pre ++ [p]) (cutStep found p) := by
  rcases snoc_of found with e | ⟨f, q, e⟩
  · subst e
    rw [cutStep_nil]
    have hp : pre = [] := by
      cases pre with
      | nil => rfl
      | cons a r =>
        obtain ⟨q, hq, _⟩ := h.cov a (by simp)
        exact absurd hq (by simp)
    subst hp
    exact ⟨by simp, fun q hq => by simpa using hq, fun y hy => ⟨p, by simp, by simp at hy; rw [hy]; omega⟩, List.pairwise_singleton _ _⟩
  · subst e
    rw [cutStep_snoc]
    have hq : q ∈ pre := h.sub q (by simp)
    have hqp := leP_iff.mp (hs q hq)
    split
    · rename_i hlt
      refine ⟨by have := h.len; simp at this ⊢; omega, fun r hr => ?_, fun y hy => ?_, ?_⟩
      · rcases List.mem_append.mp hr with hr | hr
        · exact List.mem_append_left _ (h.sub r hr)
        · exact List.mem_append_right _ hr
      · rcases List.mem_append.mp hy with hy | hy
        · obtain ⟨r, h1, h2⟩ := h.cov y hy
          exact ⟨r, List.mem_append_left _ h1, h2⟩
        · exact ⟨p, by simp, by simp at hy; rw [hy]; omega⟩
      · rw [List.pairwise_append]
        refine ⟨h.fal, List.pairwise_singleton _ _, fun r hr s hs => ?_⟩
        have hs' : s = p := by simpa using hs
        subst hs'
        have fq : Falls q s := ⟨by omega, hlt⟩
        rcases List.mem_append.mp hr with hr | hr
        · have fr : Falls r q := (List.pairwise_append.mp h.fal).2.2 r hr q (by simp)
          exact ⟨by have := fr.1; have := fq.1; omega, by have := fr.2; have := fq.2; omega⟩
        · have hr' : r = q := by simpa using hr
          rw [hr']; exact fq
    · rename_i hge
      refine ⟨by have := h.len; simp at this ⊢; omega, fun r hr => List.mem_append_left _ (h.sub r hr), fun y hy => ?_, h.fal⟩
      rcases List.mem_append.mp hy with hy | hy
      · exact h.cov y hy
      · have hy' : y = p := by simpa using hy
        rw [hy']
        exact ⟨q, by simp, by omega, by omega⟩
theorem cut_go : ∀ (xs pre found : List P2), CutOk pre found → (pre ++ xs).Pairwise (fun p q => leP p q = true) → CutOk (pre ++ xs) (xs.foldl cutStep found)
  | [], pre, found, h, _ => by rw [List.append_nil]; exact h
  | x :: xs, pre, found, h, hs => by
    have ap : pre ++ x :: xs = (pre ++ [x]) ++ xs := by rw [List.append_assoc]; rfl
    rw [ap] at hs ⊢
    refine cut_go xs (pre ++ [x]) (cutStep found x) (h.next fun q hq => ?_) hs
    exact (List.pairwise_append.mp (List.pairwise_append.mp hs).1).2.2 q hq x (by simp)
theorem cut_ok (ps : List P2) : CutOk (cornersOf ps) (cutP ps) := by
  have := cut_go (cornersOf ps) [] [] CutOk.start (by rw [List.nil_append]; exact corners_sorted ps)
  rwa [List.nil_append] at this
theorem cut_pre {ps : List P2} {pre post : List P2} (e : cornersOf ps = pre ++ post) : CutOk pre (pre.foldl cutStep []) := by
  have hs := corners_sorted ps
  rw [e] at hs
  have := cut_go pre [] [] CutOk.start (by rw [List.nil_append]; exact (List.pairwise_append.mp hs).1)
  rwa [List.nil_append] at this

/-! ### stairs -/
structure Stair (b : Int) (s : List P2) : Prop where
  at_ : ∀ p ∈ s, 1 ≤ p.1 ∧ p.1 ≤ b ∧ 0 ≤ p.2 ∧ p.2 ≤ p.1
  fal : s.Pairwise Falls
theorem Stair.mono {b c : Int} {s : List P2} (h : Stair b s) (hb : b ≤ c) : Stair c s := ⟨fun p hp => by have := h.at_ p hp; omega, h.fal⟩
theorem cut_stair {ps : List P2} {b : Int} (h : ∀ p ∈ ps, 1 ≤ p.1 ∧ p.1 ≤ b ∧ 0 ≤ p.2 ∧ p.2 ≤ b) : Stair b (cutP ps) :=
  ⟨fun q hq => by
    obtain ⟨p, hp, e⟩ := mem_corners.mp ((cut_ok ps).sub q hq)
    have := h p hp
    rw [e]
    show 1 ≤ max p.1 p.2 ∧ max p.1 p.2 ≤ b ∧ 0 ≤ p.2 ∧ p.2 ≤ max p.1 p.2
    omega, (cut_ok ps).fal⟩
theorem cut_nonempty {ps : List P2} (h : ps ≠ []) : cutP ps ≠ [] := by
  cases ps with
  | nil => exact absurd rfl h
  | cons p r =>
    obtain ⟨q, hq, _⟩ := (cut_ok (p :: r)).cov _ (mem_corners.mpr ⟨p, by simp, rfl⟩)
    intro e
    rw [e] at hq
    exact absurd hq (by simp)
/-- count c is allowed by limit L -/
def Al (s : List P2) (c L : Int) : Prop := ∃ p ∈ s, p.1 ≤ L ∧ p.2 + c ≤ L
theorem cut_al {ps : List P2} {c L : Int} (hc : 0 ≤ c) : Al (cutP ps) c L ↔ Al ps c L := by
  constructor
  · rintro ⟨q, hq, h1, h2⟩
    obtain ⟨p, hp, e⟩ := mem_corners.mp ((cut_ok ps).sub q hq)
    rw [e] at h1 h2
    have h1' : max p.1 p.2 ≤ L := h1
    have h2' : p.2 + c ≤ L := h2
    exact ⟨p, hp, by omega, h2'⟩
  · rintro ⟨p, hp, h1, h2⟩
    obtain ⟨q, hq, h3, h4⟩ := (cut_ok ps).cov _ (mem_corners.mpr ⟨p, hp, rfl⟩)
    have h3' : q.1 ≤ max p.1 p.2 := h3
    have h4' : q.2 ≤ p.2 := h4
    exact ⟨q, hq, by omega, by omega⟩
/-- the least limit for a count -/
def lowI (s : List P2) (c : Int) : Int := match s.map (fun p => max p.1 (p.2 + c)) with
  | [] => 0
  | n :: ns => ns.foldl min n
theorem foldl_min_le : ∀ (ns : List Int) (n L : Int), ns.foldl min n ≤ L ↔ n ≤ L ∨ ∃ x ∈ ns, x ≤ L
  | [], n, L => by simp
  | x :: ns, n, L => by
    rw [List.foldl_cons, foldl_min_le ns (min n x) L]
    constructor
    · rintro (h | ⟨y, hy, h⟩)
      · rcases Int.le_total n x with q | q
        · exact .inl (by omega)
        · exact .inr ⟨x, by simp, by omega⟩
      · exact .inr ⟨y, by simp [hy], h⟩
    · rintro (h | ⟨y, hy, h⟩)
      · exact .inl (by omega)
      · rcases List.mem_cons.mp hy with e | e
        · exact .inl (by rw [e] at h; omega)
        · exact .inr ⟨y, e, h⟩
theorem lowI_le {s : List P2} (hs : s ≠ []) {c L : Int} : lowI s c ≤ L ↔ Al s c L := by
  cases s with
  | nil => exact absurd rfl hs
  | cons p r =>
    show (r.map fun p => max p.1 (p.2 + c)).foldl min (max p.1 (p.2 + c)) ≤ L ↔ _
    rw [foldl_min_le]
    constructor
    · rintro (h | ⟨x, hx, h⟩)
      · exact ⟨p, by simp, by omega, by omega⟩
      · obtain ⟨q, hq, rfl⟩ := List.mem_map.mp hx
        exact ⟨q, by simp [hq], by omega, by omega⟩
    · rintro ⟨q, hq, h1, h2⟩
      rcases List.mem_cons.mp hq with e | e
      · subst e; exact .inl (by omega)
      · exact .inr ⟨_, List.mem_map.mpr ⟨q, e, rfl⟩, by omega⟩
theorem lowI_eq {s t : List P2} (hs : s ≠ []) (ht : t ≠ []) {c d : Int} (h : ∀ L, Al s c L ↔ Al t d L) : lowI s c = lowI t d := by
  have h1 := (lowI_le hs (c := c) (L := lowI t d)).mpr ((h _).mpr ((lowI_le ht).mp (Int.le_refl _)))
  have h2 := (lowI_le ht (c := d) (L := lowI s c)).mpr ((h _).mp ((lowI_le hs).mp (Int.le_refl _)))
  omega
theorem lowI_mono {s : List P2} (hs : s ≠ []) {c d : Int} (h : c ≤ d) : lowI s c ≤ lowI s d := by
  rw [lowI_le hs]
  obtain ⟨p, hp, h1, h2⟩ := (lowI_le hs (c := d) (L := lowI s d)).mp (Int.le_refl _)
  exact ⟨p, hp, h1, by omega⟩
theorem lowI_zero {b : Int} {p : P2} {r : List P2} (h : Stair b (p :: r)) : lowI (p :: r) 0 = p.1 := by
  have hp := h.at_ p (by simp)
  have h1 : lowI (p :: r) 0 ≤ p.1 := (lowI_le (by simp)).mpr ⟨p, by simp, by omega, by omega⟩
  obtain ⟨q, hq, h2, h3⟩ := (lowI_le (s := p :: r) (by simp) (c := 0)).mp (Int.le_refl _)
  have h4 : p.1 ≤ q.1 := by
    rcases List.mem_cons.mp hq with e | e
    · rw [e]; omega
    · have := ((List.pairwise_cons.mp h.fal).1 q e).1; omega
  omega
/-- the number in a stair for a limit -/
def numIn (s : List P2) (L : Int) : Option Int := ((s.filter fun p => decide (p.1 ≤ L)).map Prod.snd).getLast?
theorem numIn_none {s : List P2} {L : Int} : numIn s L = none ↔ ∀ p ∈ s, L < p.1 := by
  unfold numIn
  rw [List.getLast?_eq_none_iff, List.map_eq_nil_iff, List.filter_eq_nil_iff]
  constructor
  · intro h p hp
    have := h p hp
    simp at this
    exact this
  · intro h p hp
    have := h p hp
    simp
    exact this
theorem numIn_some {b : Int} {s : List P2} (hs : Stair b s) {L n : Int} (h : numIn s L = some n) : (∃ p ∈ s, p.1 ≤ L ∧ p.2 = n) ∧ ∀ p ∈ s, p.1 ≤ L → n ≤ p.2 := by
  unfold numIn at h
  obtain ⟨ys, e⟩ := List.getLast?_eq_some_iff.mp h
  obtain ⟨f, l2, e1, e2, e3⟩ := List.map_eq_append_iff.mp e
  have h3 : ∃ q, l2 = [q] ∧ q.2 = n := by
    cases l2 with
    | nil => cases e3
    | cons q r =>
      cases r with
      | nil => exact ⟨q, rfl, by simpa using e3⟩
      | cons _ _ => simp at e3
  obtain ⟨q, rfl, hq⟩ := h3
  have mq : q ∈ s.filter fun p => decide (p.1 ≤ L) := by rw [e1]; simp
  rw [List.mem_filter, decide_eq_true_eq] at mq
  refine ⟨⟨q, mq.1, mq.2, hq⟩, fun p hp hL => ?_⟩
  have mp : p ∈ s.filter fun p => decide (p.1 ≤ L) := by rw [List.mem_filter, decide_eq_true_eq]; exact ⟨hp, hL⟩
  have fl : (f ++ [q]).Pairwise Falls := by rw [← e1]; exact hs.fal.filter _
  rw [e1] at mp
  rcases List.mem_append.mp mp with m | m
  · have := ((List.pairwise_append.mp fl).2.2 p m q (by simp)).2
    omega
  · have : p = q := by simpa using m
    rw [this]; omega
/-- the counts that a limit allows -/
theorem al_num {b : Int} {s : List P2} (hs : Stair b s) {c L : Int} : Al s c L ↔ ∃ n, numIn s L = some n ∧ n + c ≤ L := by
  constructor
  · rintro ⟨p, hp, h1, h2⟩
    cases h : numIn s L with
    | none => have := numIn_none.mp h p hp; omega
    | some n =>
      have := (numIn_some hs h).2 p hp h1
      exact ⟨n, rfl, by omega⟩
  · rintro ⟨n, h, h1⟩
    obtain ⟨⟨p, hp, h2, h3⟩, _⟩ := numIn_some hs h
    exact ⟨p, hp, h2, by omega⟩
theorem numIn_bounds {b : Int} {s : List P2} (hs : Stair b s) {L n : Int} (h : numIn s L = some n) : 0 ≤ n ∧ n ≤ L := by
  obtain ⟨⟨p, hp, h2, h3⟩, _⟩ := numIn_some hs h
  have := hs.at_ p hp
  omega
/-- a stair is told by its numbers -/
theorem numIn_cons {p : P2} {r : List P2} {L : Int} (h : p.1 ≤ L) : numIn (p :: r) L = some ((numIn r L).getD p.2) := by
  unfold numIn
  rw [List.filter_cons, if_pos (by rw [decide_eq_true_eq]; exact h), List.map_cons, List.getLast?_cons]
theorem Stair.tail {b : Int} {p : P2} {r : List P2} (h : Stair b (p :: r)) : Stair b r := ⟨fun q hq => h.at_ q (by simp [hq]), (List.pairwise_cons.mp h.fal).2⟩
theorem stair_ext : ∀ {b : Int} {s t : List P2}, Stair b s → Stair b t → (∀ L, 1 ≤ L → L ≤ b → numIn s L = numIn t L) → s = t
  | _, [], [], _, _, _ => rfl
  | b, [], q :: u, _, ht, h => by
    have hq := ht.at_ q (by simp)
    have := h q.1 (by omega) (by omega)
    rw [numIn_cons (Int.le_refl _)] at this
    cases this
  | b, p :: r, [], hs, _, h => by
    have hp := hs.at_ p (by simp)
    have := h p.1 (by omega) (by omega)
    rw [numIn_cons (Int.le_refl _)] at this
    cases this
  | b, p :: r, q :: u, hs, ht, h => by
    have hp := hs.at_ p (by simp)
    have hq := ht.at_ q (by simp)
    have fp := (List.pairwise_cons.mp hs.fal).1
    have fq := (List.pairwise_cons.mp ht.fal).1
    have nr : numIn r p.1 = none := numIn_none.mpr fun x hx => (fp x hx).1
    have nu : numIn u q.1 = none := numIn_none.mpr fun x hx => (fq x hx).1
    have e1 := h p.1 (by omega) (by omega)
    have e2 := h q.1 (by omega) (by omega)
    rw [numIn_cons (Int.le_refl _), nr] at e1
    rw [numIn_cons (p := q) (Int.le_refl _), nu] at e2
    have l1 : ¬ p.1 < q.1 := fun z => by
      rw [show numIn (q :: u) p.1 = none from numIn_none.mpr fun x hx => by
        rcases List.mem_cons.mp hx with e | e
        · rw [e]; exact z
        · have := (fq x e).1; omega] at e1
      cases e1
    have l2 : ¬ q.1 < p.1 := fun z => by
      rw [show numIn (p :: r) q.1 = none from numIn_none.mpr fun x hx => by
        rcases List.mem_cons.mp hx with e | e
        · rw [e]; exact z
        · have := (fp x e).1; omega] at e2
      cases e2
    have e3 : p.1 = q.1 := by omega
    rw [e3, numIn_cons (Int.le_refl _), nu] at e1
    have e4 : p.2 = q.2 := by simpa using e1
    have e5 : p = q := Prod.ext e3 e4
    subst e5
    rw [stair_ext hs.tail ht.tail fun L h1 h2 => ?_]
    by_cases hL : p.1 ≤ L
    · have e6 := h L h1 h2
      rw [numIn_cons hL, numIn_cons hL] at e6
      cases h7 : numIn r L with
      | none =>
        cases h8 : numIn u L with
        | none => rfl
        | some n =>
          rw [h7, h8] at e6
          obtain ⟨⟨x, hx, _, h10⟩, _⟩ := numIn_some ht.tail h8
          have := (fq x hx).2
          simp at e6
          omega
      | some m =>
        cases h8 : numIn u L with
        | none =>
          rw [h7, h8] at e6
          obtain ⟨⟨x, hx, _, h10⟩, _⟩ := numIn_some hs.tail h7
          have := (fp x hx).2
          simp at e6
          omega
        | some n =>
          rw [h7, h8] at e6
          simpa using e6
    · rw [numIn_none.mpr fun x hx => by have := (fp x hx).1; omega, numIn_none.mpr fun x hx => by have := (fq x hx).1; omega]
/-! ### the law's looks -/
/-- the same least limits, the same stair -/
theorem low_tells {b : Int} {s t : List P2} (hs : Stair b s) (ht : Stair b t) (ns : s ≠ []) (nt : t ≠ []) {n : Nat} (hn : b < n) (h : ∀ c : Nat, c < n → lowI s c = lowI t c) : s = t := by
  refine stair_ext hs ht fun L h1 h2 => ?_
  have key : ∀ (u v : List P2), Stair b u → Stair b v → u ≠ [] → v ≠ [] → (∀ c : Nat, c < n → lowI u c = lowI v c) → ∀ m, numIn u L = some m → ∃ k, numIn v L = some k ∧ k ≤ m := fun u v hu hv nu nv hh m hm => by
    obtain ⟨b1, b2⟩ := numIn_bounds hu hm
    obtain ⟨c, hc⟩ := Int.eq_ofNat_of_zero_le (show 0 ≤ L - m by omega)
    have hcn : c < n := by omega
    have a1 : Al u c L := (al_num hu).mpr ⟨m, hm, by omega⟩
    have a2 : Al v c L := by rw [← lowI_le nv, ← hh c hcn, lowI_le nu]; exact a1
    obtain ⟨k, h3, h4⟩ := (al_num hv).mp a2
    exact ⟨k, h3, by omega⟩
  have k1 := key s t hs ht ns nt h
  have k2 := key t s ht hs nt ns fun c hc => (h c hc).symm
  cases e1 : numIn s L with
  | none =>
    cases e2 : numIn t L with
    | none => rfl
    | some m =>
      obtain ⟨k, h3, _⟩ := k2 m e2
      rw [e1] at h3
      cases h3
  | some m =>
    obtain ⟨k, h3, h4⟩ := k1 m e1
    obtain ⟨k', h5, h6⟩ := k2 k h3
    rw [e1] at h5
    cases h5
    rw [h3]
    congr 1
    omega
/-- the counts that a limit allows are the first ones -/
theorem low_le_iff {b : Int} {s : List P2} (hs : Stair b s) (ns : s ≠ []) {c : Nat} {L : Int} : lowI s c ≤ L ↔ (c : Int) < match numIn s L with | some n => L - n + 1 | none => 0 := by
  rw [lowI_le ns, al_num hs]
  cases numIn s L with
  | none => simp
  | some n => simp; omega
/-! ### of two, the greater -/
/-- limits at which one of two falls, from the greater of the firsts on; the greater number at each -/
def greatPs (s t : List P2) (start : Int) (lims : List Int) : List P2 := lims.map fun L => (L, max ((numIn s L).getD 0) ((numIn t L).getD 0))
theorem numIn_anti {b : Int} {s : List P2} (hs : Stair b s) {L M m : Int} (h : numIn s L = some m) (hLM : L ≤ M) : ∃ k, numIn s M = some k ∧ k ≤ m := by
  obtain ⟨⟨p, hp, h1, h2⟩, _⟩ := numIn_some hs h
  cases e : numIn s M with
  | none => have := numIn_none.mp e p hp; omega
  | some k => exact ⟨k, rfl, by have := (numIn_some hs e).2 p hp (by omega); omega⟩
theorem great_al {b : Int} {s t : List P2} (hs : Stair b s) (ht : Stair b t) {start : Int} {lims : List Int} (h1 : ∀ L ∈ lims, start ≤ L) (h2 : ∀ p, p ∈ s ∨ p ∈ t → start ≤ p.1 → p.1 ∈ lims) (h3 : ∃ p ∈ s, p.1 ≤ start) (h4 : ∃ p ∈ t, p.1 ≤ start) (h5 : start ∈ lims)
    (h6 : ∀ L ∈ lims, ∃ p, (p ∈ s ∨ p ∈ t) ∧ p.1 = L) (h7 : ∀ L, L < start → numIn s L = none ∨ numIn t L = none) {c L : Int} :
    Al (greatPs s t start lims) c L ↔ Al s c L ∧ Al t c L := by
  have some_at : ∀ M, start ≤ M → (∃ m, numIn s M = some m) ∧ ∃ k, numIn t M = some k := fun M hM => by
    constructor
    · obtain ⟨p, hp, h⟩ := h3
      cases e : numIn s M with
      | none => have := numIn_none.mp e p hp; omega
      | some m => exact ⟨m, rfl⟩
    · obtain ⟨p, hp, h⟩ := h4
      cases e : numIn t M with
      | none => have := numIn_none.mp e p hp; omega
      | some m => exact ⟨m, rfl⟩
  constructor
  · rintro ⟨q, hq, a1, a2⟩
    obtain ⟨M, hM, rfl⟩ := List.mem_map.mp hq
    obtain ⟨⟨m, hm⟩, k, hk⟩ := some_at M (h1 M hM)
    have a1' : M ≤ L := a1
    have a2' : max ((numIn s M).getD 0) ((numIn t M).getD 0) + c ≤ L := a2
    rw [hm, hk] at a2'
    have a3 : max m k + c ≤ L := a2'
    obtain ⟨m', hm', l1⟩ := numIn_anti hs hm a1'
    obtain ⟨k', hk', l2⟩ := numIn_anti ht hk a1'
    exact ⟨(al_num hs).mpr ⟨m', hm', by omega⟩, (al_num ht).mpr ⟨k', hk', by omega⟩⟩
  · rintro ⟨a1, a2⟩
    obtain ⟨m, hm, l1⟩ := (al_num hs).mp a1
    obtain ⟨k, hk, l2⟩ := (al_num ht).mp a2
    have hL : start ≤ L := by
      rcases Int.lt_or_le L start with z | z
      · rcases h7 L z with e | e
        · rw [hm] at e; cases e
        · rw [hk] at e; cases e
      · exact z
    -- the last corner of each up to L
    obtain ⟨⟨p, hp, p1, p2⟩, pm⟩ := numIn_some hs hm
    obtain ⟨⟨q, hq, q1, q2⟩, qm⟩ := numIn_some ht hk
    -- the greatest limit of all up to L
    have hM : ∃ M ∈ lims, M ≤ L ∧ p.1 ≤ M ∧ q.1 ≤ M := by
      rcases Int.le_total p.1 q.1 with z | z
      · rcases Int.le_total q.1 start with y | y
        · exact ⟨start, h5, hL, by omega, y⟩
        · exact ⟨q.1, h2 q (.inr hq) y, q1, z, Int.le_refl _⟩
      · rcases Int.le_total p.1 start with y | y
        · exact ⟨start, h5, hL, y, by omega⟩
        · exact ⟨p.1, h2 p (.inl hp) y, p1, Int.le_refl _, z⟩
    obtain ⟨M, mM, mL, mp, mq⟩ := hM
    obtain ⟨⟨m', hm'⟩, k', hk'⟩ := some_at M (h1 M mM)
    have e1 := (numIn_some hs hm').2 p hp mp
    have e2 := (numIn_some ht hk').2 q hq mq
    refine ⟨_, List.mem_map.mpr ⟨M, mM, rfl⟩, mL, ?_⟩
    show max ((numIn s M).getD 0) ((numIn t M).getD 0) + c ≤ L
    rw [hm', hk']
    show max m' k' + c ≤ L
    omega
end DL

namespace DL
open PySem PySem.Spec PyProof.Rows L2
/-! ### the pen -/
def PenOk (n : Int) (S : Sto) : Prop := ∃ (cells : List Int) (t rest : Int), S = [[.lst (cells.map .int), .int t, .int rest]] ∧ 0 ≤ t ∧ t ≤ n ∧ 0 ≤ rest
theorem ne_nilI (cells : List Int) (S : Sto) (Q : D → Sto → Prop) : Ev (oNe (.lst (cells.map .int)) (.lst []) S) Q = Q (.bl (!decide (cells = []))) S := (eqE_lst eqE_int).oNe (by decide) cells [] S Q
theorem ne_nil0 (S : Sto) (Q : D → Sto → Prop) : Ev (oNe (.lst []) (.lst []) S) Q = Q (.bl false) S := (eqE_lst eqE_int).oNe (by decide) [] [] S Q
theorem atI_mod (cells : List Int) (hc : cells ≠ []) (t : Int) : ∃ c : Int, atI (cells.map D.int) (t % cells.length) = some (.int c) := by
  have hl : 0 < cells.length := List.length_pos_iff.mpr hc
  have h0 : 0 ≤ t % (cells.length : Int) := Int.emod_nonneg _ (by omega)
  have h1 : t % (cells.length : Int) < cells.length := Int.emod_lt_of_pos _ (by omega)
  obtain ⟨j, hj⟩ := Int.eq_ofNat_of_zero_le h0
  rw [hj] at h1 ⊢
  have hj' : j < cells.length := by omega
  exact ⟨cells[j], atI_nat (by rw [List.getElem?_map, List.getElem?_eq_getElem hj']; rfl)⟩
theorem mix_bound {m t : Int} (h0 : 0 ≤ m) (h1 : m < 2147483563) (ht : 0 ≤ t) (hn : t < 1048576) : (m * (2 * t + 2203) + 57793 * t * t + 84653).natAbs < 2 ^ 64 := by
  have e1 : 0 ≤ m * (2 * t + 2203) := Int.mul_nonneg h0 (by omega)
  have e2 : m * (2 * t + 2203) ≤ 2147483563 * 2099355 := Int.mul_le_mul (by omega) (by omega) (by omega) (by omega)
  have e3 : 0 ≤ 57793 * t * t := Int.mul_nonneg (by omega) ht
  have e4 : 57793 * t * t ≤ (57793 * 1048576) * 1048576 := Int.mul_le_mul (by omega) (by omega) (by omega) (by omega)
  generalize m * (2 * t + 2203) = x at *
  generalize 57793 * t * t = y at *
  omega
/-- the last part of a draw -/
theorem pow_b {m t : Int} {S : Sto} {Q : D → Sto → Prop} (h0 : 0 ≤ m) (h1 : m < 2147483563) (ht : 0 ≤ t) (hn : t < 1048576) : Ev (oPow (.int (m * (2 * t + 2203) + 57793 * t * t + 84653)) (.int 3) S) Q = Q (.int ((m * (2 * t + 2203) + 57793 * t * t + 84653) ^ 3)) S := ev_oPow ⟨by decide, by decide, mix_bound h0 h1 ht hn⟩
theorem pow_a {c t : Int} {S : Sto} {Q : D → Sto → Prop} (ht : 0 ≤ t) (hn : t < 1048576) : Ev (oPow (.int (c % 2147483549 + 84653 * t + 2203)) (.int 5) S) Q = Q (.int ((c % 2147483549 + 84653 * t + 2203) ^ 5)) S := ev_oPow ⟨by decide, by decide, by omega⟩
theorem draw_ev {n many : Int} {S : Sto} (h : PenOk n S) (hn : n < 1048576) (h1 : 0 < many) (h2 : many < 1073741824) : Ev (φ__law_draw [.mu 0, .int many] S) fun d S' => ∃ x, d = .int x ∧ 0 ≤ x ∧ x < many ∧ PenOk (n + 1) S' := by
  obtain ⟨cells, t, rest, rfl, ht, htn, hr⟩ := h
  rw [e__law_draw]
  unfold b__law_draw
  by_cases hp : 0 < rest
  · simp [hp, ↓ev_oFdiv ⟨h1, h2⟩, ↓ev_oMod h1]
    exact ⟨Int.emod_nonneg _ (by omega), Int.emod_lt_of_pos _ h1, cells, t, rest / many, rfl, ht, by omega, Int.ediv_nonneg hr (by omega)⟩
  · have htl : t < 1048576 := by omega
    have fin : ∀ x S', S' = [[D.lst (cells.map .int), .int (t + 1), .int rest]] → 0 ≤ x % many ∧ x % many < many ∧ PenOk (n + 1) S' := fun x S' e => ⟨Int.emod_nonneg _ (by omega), Int.emod_lt_of_pos _ h1, cells, t + 1, rest, e, by omega, by omega, hr⟩
    by_cases hc : cells = []
    · subst hc
      have h3 : ¬ t < 0 := by omega
      simp (disch := omega) [hp, ↓ne_nilI, ↓ev_oMul, ↓ev_oMod, ↓ev_oFdiv, ↓pow_a, ↓pow_b, h3]
      exact fin _ _ rfl
    · obtain ⟨c, hat⟩ := atI_mod cells hc t
      have hl : 0 < (cells.length : Int) := by have := List.length_pos_iff.mpr hc; omega
      by_cases hb : t < cells.length
      · by_cases hd : 1000000000000000000 ≤ (if c < 0 then -c else c)
        · simp (disch := omega) [hp, ↓ne_nilI, hc, hb, hd, ↓ev_ixL hat, ↓ev_oMul, ↓ev_oMod, ↓ev_oFdiv, ↓pow_a, ↓pow_b]
          refine ⟨Int.emod_nonneg _ (by omega), Int.emod_lt_of_pos _ h1, cells, t + 1, _, rfl, by omega, by omega, Int.ediv_nonneg ?_ (by omega)⟩
          split <;> omega
        · simp (disch := omega) [hp, ↓ne_nilI, hc, hb, hd, ↓ev_ixL hat, ↓ev_oMul, ↓ev_oMod, ↓ev_oFdiv, ↓pow_a, ↓pow_b]
          exact fin _ _ rfl
      · simp (disch := omega) [hp, ↓ne_nilI, hc, hb, ↓ev_ixL hat, ↓ev_oMul, ↓ev_oMod, ↓ev_oFdiv, ↓pow_a, ↓pow_b]
        exact fin _ _ rfl
end DL

namespace DL
open PySem PySem.Spec PyProof.Rows L2
def dStair (s : List P2) : D := .tup (s.map dPair)
section
variable {S : Sto} {Q : D → Sto → Prop}
theorem int_ev {n : Int} : Ev (φ_is_integer [.int n] S) Q = Q (.bl true) S := by
  rw [e_is_integer]
  unfold b_is_integer
  simp
theorem between_ev {v a b : Int} : Ev (φ_is_between [.int v, .int a, .int b] S) Q = Q (.bl (decide (a ≤ v) && decide (v ≤ b))) S := by
  rw [e_is_between]
  unfold b_is_between
  simp [↓int_ev]
  by_cases h : a ≤ v
  · simp [h]
  · simp [h]
theorem listed_t {ds : List D} : Ev (φ_is_listed [.tup ds] S) Q = Q (.bl true) S := by
  rw [e_is_listed]
  unfold b_is_listed
  simp
theorem listed_l {ds : List D} : Ev (φ_is_listed [.lst ds] S) Q = Q (.bl true) S := by
  rw [e_is_listed]
  unfold b_is_listed
  simp
theorem listed_p {p : P2} : Ev (φ_is_listed [dPair p] S) Q = Q (.bl true) S := listed_t
theorem eq_nilP (f : List P2) (Q : D → Sto → Prop) : Ev (oEq (.lst (f.map dPair)) (.lst []) S) Q = Q (.bl (decide (f = []))) S := (eqE_lst eqE_pair).oEq (by decide) f [] S Q
theorem ne_nilP (f : List P2) (Q : D → Sto → Prop) : Ev (oNe (.lst (f.map dPair)) (.lst []) S) Q = Q (.bl (!decide (f = []))) S := (eqE_lst eqE_pair).oNe (by decide) f [] S Q
theorem eq_snocP (f : List P2) (q : P2) (Q : D → Sto → Prop) : Ev (oEq (.lst (f.map dPair ++ [dPair q])) (.lst []) S) Q = Q (.bl false) S := by
  have := eq_nilP (S := S) (f ++ [q]) Q
  rw [List.map_append] at this
  rw [show (f.map dPair ++ [dPair q]) = f.map dPair ++ [q].map dPair from rfl, this]
  simp
theorem corner_sort {ps : List P2} {Q : List D → Sto → Prop} : Ev (oSorted [.lst (ps.map fun p => dPair (max p.1 p.2, p.2))] S) Q = Q ((cornersOf ps).map dPair) S := by
  rw [show (ps.map fun p => dPair (max p.1 p.2, p.2)) = (ps.map fun p => (max p.1 p.2, p.2)).map dPair by rw [List.map_map]; rfl, ev_sortP]
  rfl
theorem fold_snoc (pre : List P2) (x : P2) : (pre ++ [x]).foldl cutStep [] = cutStep (pre.foldl cutStep []) x := by rw [List.foldl_append]; rfl
theorem cut_ev {ps : List P2} (hl : ps.length ≤ 1000) : Ev (φ_cut_of [.lst (ps.map dPair)] S) Q = Q (dStair (cutP ps)) S := Ev.of (Ev.eq (by
  rw [e_cut_of]
  unfold b_cut_of
  simp only [↓es_seq, ↓es_new, ↓ev_eDsp, ↓ev_eNil]
  refine ⟨by decide, ?_⟩
  simp only [↓ws_s, ↓ws_0, ↓es_for, ↓ev_iD, ↓ev_eLst, ↓ev_eBltN, ↓ev_eCons, ↓ev_eComp, ↓ev_eV0, ↓wq_l, ↓ww_0, ↓ww_s]
  rw [compGo_all dPair (fun p => dPair (max p.1 p.2, p.2)) ps fun p hp => by simp]
  simp only [↓ev_eNil, ↓corner_sort]
  refine forGo_pre dPair (fun pre env S' => S' = S ∧ ∃ x y, env = [some (.sh (.lst (ps.map dPair))), some (.own ((pre.foldl cutStep []).map dPair)), x, y]) (cornersOf ps) [] ?_ _ _ ⟨rfl, _, _, rfl⟩ ?_
  · rintro pre x post env S' e ⟨rfl, x2, y2, rfl⟩
    have ok := cut_pre (ps := ps) (pre := pre) (post := x :: post) e
    have hlen : (pre.foldl cutStep []).length < 1000000 := by
      have h1 := ok.len
      have h2 := corners_len ps
      rw [show cornersOf ps = pre ++ x :: post from e, List.length_append, List.length_cons] at h2
      omega
    rcases snoc_of (pre.foldl cutStep []) with h | ⟨f, q, h⟩
    · simp [fold_snoc, h, cutStep_nil, ↓eq_nilP]
    · rw [h] at hlen
      simp only [fold_snoc, h, cutStep_snoc, List.map_append, List.map_cons, List.map_nil]
      have hlen' : f.length + 1 < 1000000 := by simpa using hlen
      by_cases hx : x.2 < q.2
      · simp [hx, ↓eq_snocP, hlen']
      · simp [hx, ↓eq_snocP]
  · rintro env S' ⟨rfl, x2, y2, rfl⟩
    simp [dStair, cutP]))
end
end DL

namespace DL
open PySem PySem.Spec PyProof.Rows L2
section
variable {S : Sto} {Q : D → Sto → Prop}
theorem opt_non : dOpt none = .non := rfl
theorem opt_int (i : Int) : dOpt (some i) = .int i := rfl
theorem numIn_ev {s : List P2} {L : Int} : Ev (φ_number_in [dStair s, .int L] S) Q = Q (dOpt (numIn s L)) S := Ev.of (Ev.eq (by
  rw [e_number_in]
  unfold b_number_in dStair
  simp only [↓es_seq, ↓es_set, ↓ev_eLst, ↓ev_eComp, ↓ev_iD, ↓ev_eV0, ↓wq_t, ↓ww_0, ↓ww_s, ↓ws_0, ↓ws_s]
  rw [compGo_pure dPair (fun p => decide (p.1 ≤ L)) (fun p => .int p.2) s fun p hp => by simp]
  unfold numIn
  rcases snoc_of (s.filter fun p => decide (p.1 ≤ L)) with h | ⟨f, q, h⟩
  · rw [h]
    simp [opt_non]
  · rw [h]
    simp only [List.map_append, List.map_cons, List.map_nil, List.getLast?_concat]
    simp [opt_int]))
theorem lowIn_ev {s : List P2} (hs : s ≠ []) {c : Int} : Ev (φ_least_in [dStair s, .int c] S) Q = Q (.int (lowI s c)) S := Ev.of (Ev.eq (by
  rw [e_least_in]
  unfold b_least_in dStair
  simp only [↓es_ret, ↓ev_minDef, ↓ev_eLst, ↓ev_eComp, ↓ev_iD, ↓ev_eV0, ↓wq_t, ↓ww_0, ↓ww_s, ↓ws_0, ↓ws_s]
  rw [compGo_all dPair (fun p => .int (max p.1 (p.2 + c))) s fun p hp => by simp]
  simp only [↓ev_eC]
  rw [show (s.map fun p => D.int (max p.1 (p.2 + c))) = (s.map fun p => max p.1 (p.2 + c)).map D.int by rw [List.map_map]; rfl, allInt_of]
  unfold lowI
  cases s with
  | nil => exact absurd rfl hs
  | cons p r => first | exact ⟨rfl, rfl⟩ | exact ⟨rfl, trivial⟩ | exact ⟨trivial, trivial⟩ | trivial))
theorem quietIn_ev {s : List P2} (hl : s.length ≤ 1000) : Ev (φ_quiet_in [dStair s] S) Q = Q (dStair (cutP (s.map fun p => (p.1, p.2 + 1)))) S := Ev.of (Ev.eq (by
  rw [e_quiet_in]
  unfold b_quiet_in
  rw [show dStair s = .tup (s.map dPair) from rfl]
  simp only [↓es_ret, ↓ev_eCall, ↓ev_eCons, ↓ev_eLst, ↓ev_eComp, ↓ev_iD, ↓ev_eV0, ↓wq_t, ↓ww_0, ↓ww_s, ↓ws_0, ↓ws_s]
  rw [compGo_all dPair (fun p => dPair (p.1, p.2 + 1)) s fun p hp => by simp]
  simp only [↓ev_eNil]
  rw [show (s.map fun p => dPair (p.1, p.2 + 1)) = (s.map fun p => (p.1, p.2 + 1)).map dPair by rw [List.map_map]; rfl, cut_ev (by rw [List.length_map]; exact hl)]
  first | exact ⟨rfl, rfl⟩ | exact ⟨rfl, trivial⟩ | exact ⟨trivial, trivial⟩ | trivial))
theorem among_ev {s t : List P2} (hl : s.length + t.length ≤ 1000) : Ev (φ_least_among [.lst [dStair s, dStair t]] S) Q = Q (dStair (cutP (s ++ t))) S := Ev.of (Ev.eq (by
  rw [e_least_among]
  unfold b_least_among
  simp only [↓es_ret, ↓ev_eCall, ↓ev_eCons, ↓ev_eLst, ↓ev_eComp2, ↓ev_iD, ↓ev_eV0, ↓wq_l, ↓ww_0, ↓ww_s, ↓ws_0, ↓ws_s]
  rw [show [dStair s, dStair t] = [s, t].map dStair from rfl, compGo2_all (S := S) dStair dPair (fun x => x) (fun _ _ => true) (fun _ y => dPair y) [s, t] fun x hx => by
    simp [dStair, wipeE]]
  have e : ([s, t].flatMap fun x => (x.filter fun _ => true).map fun y => dPair y) = (s ++ t).map dPair := by
    have ft : ∀ xs : List P2, xs.filter (fun _ => true) = xs := fun xs => List.filter_eq_self.mpr fun _ _ => rfl
    simp [ft]
  rw [e]
  refine ⟨by simp; omega, ?_⟩
  simp only [↓ev_eNil]
  rw [cut_ev (by simp; omega)]
  first | exact ⟨rfl, rfl⟩ | exact ⟨rfl, trivial⟩ | exact ⟨trivial, trivial⟩ | trivial))
theorem pairOf_ev {p : P2} {a b : Int} : Ev (φ_is_pair_of [dPair p, .int a, .int b] S) Q = Q (.bl (decide (1 ≤ p.1) && decide (p.1 ≤ 1000000) && (decide (a ≤ p.2) && decide (p.2 ≤ b)))) S := Ev.of (Ev.eq (by
  rw [e_is_pair_of]
  unfold b_is_pair_of
  simp only [↓es_seq, ↓es_if, ↓ev_eOrT, ↓ev_eNotT, ↓ev_eTru, ↓ev_eCall, ↓ev_eCons, ↓ev_eV0, ↓ev_eNil, ↓listed_p, ↓wt_b]
  have q : ∀ Q : D → Sto → Prop, Ev (oNe (.int 2) (.int 2) S) Q = Q (.bl false) S := fun Q => eqE_int.oNe (by decide) 2 2 S Q
  simp [↓q, ↓between_ev]
  by_cases h1 : 1 ≤ p.1
  · by_cases h2 : p.1 ≤ 1000000
    · simp [h1, h2]
    · simp [h1, h2]
  · simp [h1]))
theorem fixed_ev {s : List P2} : Ev (φ_fixed_stair [dStair s] S) Q = Q (dStair s) S := Ev.of (Ev.eq (by
  rw [e_fixed_stair]
  unfold b_fixed_stair
  rw [show dStair s = .tup (s.map dPair) from rfl]
  simp only [↓es_ret, ↓ev_eBlt, ↓ev_eCons, ↓ev_eLst, ↓ev_eComp, ↓ev_iD, ↓ev_eV0, ↓wq_t, ↓ww_0, ↓ww_s, ↓ws_0, ↓ws_s]
  rw [compGo_all dPair dPair s fun p hp => by simp]
  simp))
theorem zip_falls : ∀ {s : List P2}, s.Pairwise Falls → ∀ q ∈ s.zip (s.drop 1), Falls q.1 q.2
  | [], _, q, hq => absurd hq (by simp)
  | [p], _, q, hq => absurd hq (by simp)
  | p :: r :: u, h, q, hq => by
    rw [List.pairwise_cons] at h
    have hq' : q ∈ (p, r) :: (r :: u).zip ((r :: u).drop 1) := by simpa using hq
    rcases List.mem_cons.mp hq' with e | e
    · rw [e]; exact h.1 r (by simp)
    · exact zip_falls h.2 q e
theorem isStair_ev {s : List P2} {b : Int} (hs : Stair b s) (hb : b ≤ 1000000) : Ev (φ_is_stair [dStair s] S) Q = Q (.bl true) S := Ev.of (Ev.eq (by
  rw [e_is_stair]
  unfold b_is_stair
  rw [show dStair s = .tup (s.map dPair) from rfl]
  simp only [↓es_seq, ↓es_if, ↓ev_eOrT, ↓ev_eNotT, ↓ev_eTru, ↓ev_eCall, ↓ev_eCons, ↓ev_eV0, ↓ev_eNil, ↓listed_t, ↓wt_b, ↓ev_eBlt, ↓ev_eLst, ↓ev_eComp, ↓ev_iD, ↓wq_t, ↓ww_0, ↓ww_s, ↓ws_0, ↓ws_s]
  have h1 : ∀ p ∈ s, (decide (1 ≤ p.1) && decide (p.1 ≤ 1000000) && (decide (0 ≤ p.2) && decide (p.2 ≤ 1000000))) = true := fun p hp => by
    have := hs.at_ p hp
    simp
    omega
  have h2 : ∀ p ∈ s, decide (p.2 ≤ p.1) = true := fun p hp => by
    have := hs.at_ p hp
    simp
    omega
  have all_true : ∀ {γ : Type} (xs : List γ), (xs.map fun _ => D.bl true) = (xs.map fun _ => true).map D.bl := fun xs => by rw [List.map_map]; rfl
  have all_id : ∀ {γ : Type} (xs : List γ), ((xs.map fun _ => true).all id) = true := fun xs => by simp
  rw [compGo_all dPair (fun _ => .bl true) s fun p hp => by simp [↓pairOf_ev, h1 p hp], all_true]
  simp only [Bool.not_true, Bool.false_eq_true, if_false, ↓ev_all, all_id, ↓wt_b, ↓es_nil, ↓ev_eComp, ↓ev_iD, ↓wq_t, ↓ww_0, ↓ww_s, ↓ws_0, ↓ws_s, ↓ev_eV0, ↓ev_eNil]
  rw [compGo_all dPair (fun _ => .bl true) s fun p hp => by simpa using h2 p hp, all_true]
  simp only [Bool.not_true, Bool.false_eq_true, if_false, ↓ev_all, all_id, ↓wt_b, ↓es_nil, ↓es_ret, ↓ev_eBlt, ↓ev_eCons, ↓ev_eLst, ↓ev_eComp, ↓ev_iZi, ↓ww_0, ↓ww_s, ↓ws_0, ↓ws_s, ↓ev_eV0, ↓ev_eNil, oSo_int, oNo_eq, ↓ev_eSl, ↓ev_eVb0, ↓w2_t]
  have cut1 : cutD (s.map dPair) (some 1) none = (s.drop 1).map dPair := by
    unfold cutD
    rw [show HT.sIx (s.map dPair).length 0 (some 1) = min 1 (s.map dPair).length from HT.sIx_nat _ 0 1, HT.sIx_none, List.map_drop]
    cases s with
    | nil => rfl
    | cons p r =>
      rw [show min 1 (List.map dPair (p :: r)).length = 1 by simp]
      exact List.take_of_length_le (by simp)
  have zz : zipD (s.map dPair) ((s.drop 1).map dPair) = (s.zip (s.drop 1)).map fun q => .tup [dPair q.1, dPair q.2] := by
    unfold zipD
    rw [List.zipWith_map, List.zip, List.map_zipWith]
  rw [cut1, zz, compGo_all (fun q : P2 × P2 => D.tup [dPair q.1, dPair q.2]) (fun _ => .bl true) (s.zip (s.drop 1)) fun q hq => by
    have := zip_falls hs.fal q hq
    have a1 : q.1.1 < q.2.1 := this.1
    have a2 : q.2.2 < q.1.2 := this.2
    simp [a1, a2], all_true]
  simp only [↓ev_eNil, ↓ev_all, all_id]
  first | exact ⟨rfl, rfl⟩ | exact ⟨rfl, trivial⟩ | exact ⟨trivial, trivial⟩ | trivial))

theorem needStair_ev {s : List P2} {b : Int} (hs : Stair b s) (hb : b ≤ 1000000) : Ev (φ_need_stair [dStair s] S) Q = Q (dStair s) S := Ev.of (Ev.eq (by
  rw [e_need_stair]
  unfold b_need_stair
  simp [↓isStair_ev hs hb, ↓fixed_ev]))
theorem needStairs_ev {s t : List P2} {b : Int} (hs : Stair b s) (ht : Stair b t) (hb : b ≤ 1000000) : Ev (φ_need_stairs [.lst [dStair s, dStair t]] S) Q = Q (.lst [dStair s, dStair t]) S := Ev.of (Ev.eq (by
  rw [e_need_stairs]
  unfold b_need_stairs
  simp only [↓es_seq, ↓es_if, ↓ev_eOrT, ↓ev_eNotT, ↓ev_eTru, ↓ev_eCall, ↓ev_eCons, ↓ev_eV0, ↓ev_eNil, ↓listed_l, ↓wt_b, ↓ev_eBlt, ↓ev_eLst, ↓ev_eComp, ↓ev_iD, ↓wq_l, ↓ww_0, ↓ww_s, ↓ws_0, ↓ws_s]
  have hst : ∀ x ∈ [s, t], Stair b x := fun x hx => by
    rcases List.mem_cons.mp hx with e | e
    · rw [e]; exact hs
    · rw [List.mem_singleton.mp e]; exact ht
  rw [show [dStair s, dStair t] = [s, t].map dStair from rfl, compGo_all dStair (fun _ => .bl true) [s, t] fun x hx => by simp [↓isStair_ev (hst x hx) hb]]
  rw [show ([s, t].map fun _ => D.bl true) = [true, true].map D.bl from rfl]
  simp only [Bool.not_true, Bool.false_eq_true, if_false, ↓ev_all, ↓wt_b, ↓es_nil, ↓es_ret, ↓ev_eLst, ↓ev_eComp, ↓ev_iD, ↓wq_l, ↓ww_0, ↓ww_s, ↓ws_0, ↓ws_s, ↓ev_eV0, ↓ev_eNil, List.all_cons, List.all_nil, id, Bool.and_self]
  rw [compGo_all dStair dStair [s, t] fun x hx => by simp [↓fixed_ev]]
  first | exact ⟨rfl, rfl⟩ | exact ⟨rfl, trivial⟩ | exact ⟨trivial, trivial⟩ | trivial))
theorem needCount_ev {c : Int} (h0 : 0 ≤ c) (h1 : c ≤ 1000000) : Ev (φ_need_count [.int c, .int 1000000] S) Q = Q .non S := Ev.of (Ev.eq (by
  rw [e_need_count]
  unfold b_need_count
  simp [↓between_ev, h0, h1]))
theorem needLimit_ev {c : Int} (h0 : 1 ≤ c) (h1 : c ≤ 1000000) : Ev (φ_need_limit [.int c] S) Q = Q .non S := Ev.of (Ev.eq (by
  rw [e_need_limit]
  unfold b_need_limit
  simp [↓between_ev, h0, h1]))
theorem numberAt_ev {s : List P2} {b L : Int} (hs : Stair b s) (hb : b ≤ 1000000) (h0 : 1 ≤ L) (h1 : L ≤ 1000000) : Ev (φ_number_at [dStair s, .int L] S) Q = Q (dOpt (numIn s L)) S := Ev.of (Ev.eq (by
  rw [e_number_at]
  unfold b_number_at
  simp [↓needStair_ev hs hb, ↓needLimit_ev h0 h1, ↓numIn_ev]))
theorem leastLimit_ev {s : List P2} {b c : Int} (hs : Stair b s) (hb : b ≤ 1000000) (hn : s ≠ []) (h0 : 0 ≤ c) (h1 : c ≤ 1000000) : Ev (φ_least_limit [dStair s, .int c] S) Q = Q (.int (lowI s c)) S := Ev.of (Ev.eq (by
  rw [e_least_limit]
  unfold b_least_limit
  simp [↓needStair_ev hs hb, ↓needCount_ev h0 h1, ↓lowIn_ev hn]))
theorem quietOf_ev {s : List P2} {b : Int} (hs : Stair b s) (hb : b ≤ 1000000) (hl : s.length ≤ 1000) : Ev (φ_quiet_of [dStair s] S) Q = Q (dStair (cutP (s.map fun p => (p.1, p.2 + 1)))) S := Ev.of (Ev.eq (by
  rw [e_quiet_of]
  unfold b_quiet_of
  simp [↓needStair_ev hs hb, ↓quietIn_ev hl]))
theorem leastOf_ev {s t : List P2} {b : Int} (hs : Stair b s) (ht : Stair b t) (hb : b ≤ 1000000) (hl : s.length + t.length ≤ 1000) : Ev (φ_least_of [.lst [dStair s, dStair t]] S) Q = Q (dStair (cutP (s ++ t))) S := Ev.of (Ev.eq (by
  rw [e_least_of]
  unfold b_least_of
  simp [↓needStairs_ev hs ht hb, ↓among_ev hl]))
end
end DL

namespace DL
open PySem PySem.Spec PyProof.Rows L2
theorem eqE_stair : EqE dStair 2 := eqE_tup eqE_pair
section
variable {S : Sto} {Q : D → Sto → Prop}
theorem eq_noStairs (xs : List (List P2)) (Q : D → Sto → Prop) : Ev (oEq (.lst (xs.map dStair)) (.lst []) S) Q = Q (.bl (decide (xs = []))) S := (eqE_lst eqE_stair).oEq (by decide) xs [] S Q
theorem eq_emptyT (s : List P2) (Q : D → Sto → Prop) : Ev (oEq (dStair s) (.tup []) S) Q = Q (.bl (decide (s = []))) S := eqE_stair.oEq (by decide) s [] S Q
theorem ne_emptyT (s : List P2) (Q : D → Sto → Prop) : Ev (oNe (dStair s) (.tup []) S) Q = Q (.bl (!decide (s = []))) S := eqE_stair.oNe (by decide) s [] S Q
theorem head_ev {p : P2} {r : List P2} : Ev (oIx (dStair (p :: r)) (.int 0) S) Q = Q (dPair p) S := ev_ixT (atI_nat (j := 0) rfl)
def limsOf (s t : List P2) (start : Int) : List Int := (([s, t].flatMap fun x => (x.filter fun p => decide (start ≤ p.1)).map fun p => p.1)).mergeSort fun a b => decide (a ≤ b)
theorem mem_lims {s t : List P2} {start L : Int} : L ∈ limsOf s t start ↔ ∃ p, (p ∈ s ∨ p ∈ t) ∧ start ≤ p.1 ∧ p.1 = L := by
  unfold limsOf
  rw [List.mem_mergeSort, List.mem_flatMap]
  constructor
  · rintro ⟨x, hx, h⟩
    obtain ⟨p, hp, e⟩ := List.mem_map.mp h
    rw [List.mem_filter, decide_eq_true_eq] at hp
    refine ⟨p, ?_, hp.2, e⟩
    rcases List.mem_cons.mp hx with z | z
    · rw [← z]; exact .inl hp.1
    · rw [← List.mem_singleton.mp z]; exact .inr hp.1
  · rintro ⟨p, hp, h1, h2⟩
    rcases hp with hp | hp
    · exact ⟨s, by simp, List.mem_map.mpr ⟨p, by rw [List.mem_filter, decide_eq_true_eq]; exact ⟨hp, h1⟩, h2⟩⟩
    · exact ⟨t, by simp, List.mem_map.mpr ⟨p, by rw [List.mem_filter, decide_eq_true_eq]; exact ⟨hp, h1⟩, h2⟩⟩
theorem lims_len (s t : List P2) (start : Int) : (limsOf s t start).length ≤ s.length + t.length := by
  unfold limsOf
  rw [List.length_mergeSort]
  simp only [List.flatMap_cons, List.flatMap_nil, List.append_nil, List.length_append, List.length_map]
  have := List.length_filter_le (fun p : P2 => decide (start ≤ p.1)) s
  have := List.length_filter_le (fun p : P2 => decide (start ≤ p.1)) t
  omega
theorem great_ev {p q : P2} {r u : List P2} {b : Int} (hs : Stair b (p :: r)) (ht : Stair b (q :: u)) (hl : (p :: r).length + (q :: u).length ≤ 1000) :
    Ev (φ_greatest_among [.lst [dStair (p :: r), dStair (q :: u)]] S) Q = Q (dStair (cutP (greatPs (p :: r) (q :: u) (max p.1 q.1) (limsOf (p :: r) (q :: u) (max p.1 q.1))))) S := Ev.of (Ev.eq (by
  rw [e_greatest_among]
  unfold b_greatest_among
  rw [show [dStair (p :: r), dStair (q :: u)] = [p :: r, q :: u].map dStair from rfl]
  simp only [↓es_seq, ↓es_if, ↓ev_eOrT, ↓ev_eTst, ↓ev_eBin, ↓ev_eVb0, ↓ev_eLst, ↓ev_eDsp, ↓ev_eNil]
  refine ⟨by decide, ?_⟩
  simp only [↓eq_noStairs, reduceCtorEq, decide_false, Bool.false_eq_true, if_false, ↓ev_eTru, ↓ev_eBlt, ↓ev_eCons, ↓ev_eLst, ↓ev_eComp, ↓ev_iD, ↓ev_eV0, ↓wq_l, ↓ww_0, ↓ww_s, ↓ws_0, ↓ws_s]
  rw [compGo_all dStair (fun _ => .bl false) [p :: r, q :: u] fun x hx => by
    have hx' : x ≠ [] := by
      rcases List.mem_cons.mp hx with e | e
      · rw [e]; simp
      · rw [List.mem_singleton.mp e]; simp
    simp [↓eq_emptyT, hx']]
  rw [show ([p :: r, q :: u].map fun _ => D.bl false) = [false, false].map D.bl from rfl]
  simp only [↓ev_eNil, ↓ev_any, ↓wt_b, List.any_cons, List.any_nil, id, Bool.or_self, Bool.false_eq_true, if_false, ↓es_nil, ↓es_seq, ↓es_set, ↓ev_eBlt, ↓ev_eCons, ↓ev_eLst, ↓ev_eComp, ↓ev_iD, ↓ev_eV0, ↓wq_l, ↓ww_0, ↓ww_s, ↓ws_0, ↓ws_s]
  rw [compGo_all dStair (fun x => .int ((x.head?.getD (0, 0)).1)) [p :: r, q :: u] fun x hx => by
    rcases List.mem_cons.mp hx with e | e
    · rw [e]; simp [↓head_ev]
    · rw [List.mem_singleton.mp e]; simp [↓head_ev]]
  rw [show ([p :: r, q :: u].map fun x => D.int ((x.head?.getD (0, 0)).1)) = [p.1, q.1].map D.int from rfl]
  simp only [↓ev_eNil, ↓ev_maxL, List.foldl_cons, List.foldl_nil, ↓ws_0, ↓ws_s, ↓es_seq, ↓es_set, ↓ev_eBltN, ↓ev_eCons, ↓ev_eLst, ↓ev_eComp2, ↓ev_iD, ↓ev_eV0, ↓wq_l, ↓ww_0, ↓ww_s]
  rw [compGo2_all (S := S) dStair dPair (fun x => x) (fun _ p' => decide (max p.1 q.1 ≤ p'.1)) (fun _ p' => .int p'.1) [p :: r, q :: u] fun x hx => by
    refine (show ∀ (P : Prop), P → P from fun _ h => h) _ ?_
    simp [dStair, wipeE]]
  rw [show ([p :: r, q :: u].flatMap fun x => (x.filter fun p' => decide (max p.1 q.1 ≤ p'.1)).map fun p' => D.int p'.1) = ([p :: r, q :: u].flatMap fun x => (x.filter fun p' => decide (max p.1 q.1 ≤ p'.1)).map fun p' => p'.1).map D.int by
    rw [List.map_flatMap]; congr 1; funext x; rw [List.map_map]; rfl]
  have hlen : (([p :: r, q :: u].flatMap fun x => (x.filter fun p' => decide (max p.1 q.1 ≤ p'.1)).map fun p' => p'.1).map D.int).length ≤ 1000000 := by
    rw [List.length_map]
    have := lims_len (p :: r) (q :: u) (max p.1 q.1)
    unfold limsOf at this
    rw [List.length_mergeSort] at this
    omega
  refine ⟨hlen, ?_⟩
  simp only [↓ev_eNil, ↓ev_sortI, ↓ws_0, ↓ws_s, ↓es_ret, ↓ev_eCall, ↓ev_eCons, ↓ev_eLst, ↓ev_eComp, ↓ev_iD, ↓ev_eVs, ↓ev_eV0, ↓wq_l, ↓ww_0, ↓ww_s]
  rw [compGo_all D.int (fun L => dPair (L, max ((numIn (p :: r) L).getD 0) ((numIn (q :: u) L).getD 0))) _ fun L hL => by
    obtain ⟨x, hx, h1, h2⟩ := mem_lims.mp (show L ∈ limsOf (p :: r) (q :: u) (max p.1 q.1) from hL)
    have i1 : ∃ m, numIn (p :: r) L = some m := by
      rw [numIn_cons (by omega)]
      exact ⟨_, rfl⟩
    have i2 : ∃ m, numIn (q :: u) L = some m := by
      rw [numIn_cons (by omega)]
      exact ⟨_, rfl⟩
    obtain ⟨m, hm⟩ := i1
    obtain ⟨k, hk⟩ := i2
    simp only [↓wg_n, ↓ws_0, ↓ws_s, ↓ev_eTup, ↓ev_eCons, ↓ev_eVs, ↓ev_eV0, ↓ev_eBlt, ↓ev_eLst, ↓ev_eComp, ↓ev_iD, ↓wq_l, ↓ww_0, ↓ww_s]
    rw [compGo_all dStair (fun x => .int ((numIn x L).getD 0)) [p :: r, q :: u] fun x hx => by
      rcases List.mem_cons.mp hx with e | e
      · rw [e]; simp [↓numIn_ev, hm, opt_int]
      · rw [List.mem_singleton.mp e]; simp [↓numIn_ev, hk, opt_int]]
    rw [show ([p :: r, q :: u].map fun x => D.int ((numIn x L).getD 0)) = [(numIn (p :: r) L).getD 0, (numIn (q :: u) L).getD 0].map D.int from rfl]
    simp [↓ev_maxL]]
  rw [show ((([p :: r, q :: u].flatMap fun x => (x.filter fun p' => decide (max p.1 q.1 ≤ p'.1)).map fun p' => p'.1).mergeSort fun a b => decide (a ≤ b)).map fun L => dPair (L, max ((numIn (p :: r) L).getD 0) ((numIn (q :: u) L).getD 0))) = (greatPs (p :: r) (q :: u) (max p.1 q.1) (limsOf (p :: r) (q :: u) (max p.1 q.1))).map dPair by
    unfold greatPs limsOf
    rw [List.map_map]
    rfl, cut_ev (by unfold greatPs; rw [List.length_map]; have := lims_len (p :: r) (q :: u) (max p.1 q.1); omega)]
  first | exact ⟨rfl, rfl⟩ | exact ⟨rfl, trivial⟩ | exact ⟨trivial, trivial⟩ | trivial))
end
end DL

namespace DL
open PySem PySem.Spec PyProof.Rows L2
section
variable {S : Sto} {Q : D → Sto → Prop} {n : Int}
theorem PenOk.mono {n m : Int} {S : Sto} (h : PenOk n S) (hm : n ≤ m) : PenOk m S := by
  obtain ⟨c, t, r, e, h1, h2, h3⟩ := h
  exact ⟨c, t, r, e, h1, by omega, h3⟩
theorem draw_k {n many : Int} {S : Sto} {Q : D → Sto → Prop} (h : PenOk n S) (hn : n < 1048576) (h1 : 0 < many) (h2 : many < 1073741824) (q : ∀ x S', 0 ≤ x → x < many → PenOk (n + 1) S' → Q (.int x) S') : Ev (φ__law_draw [.mu 0, .int many] S) Q :=
  Ev.imp (draw_ev h hn h1 h2) fun d S' ⟨x, e, a, b, p⟩ => by rw [e]; exact q x S' a b p
theorem pick_k {ds : List D} (h : PenOk n S) (hn : n < 1048576) (h0 : ds ≠ []) (hl : ds.length < 1000) (q : ∀ d S', d ∈ ds → PenOk (n + 1) S' → Q d S') : Ev (φ__law_pick [.mu 0, .lst ds] S) Q := by
  rw [e__law_pick]
  unfold b__law_pick
  have hp := List.length_pos_iff.mpr h0
  simp only [↓es_ret, ↓ev_eBin, ↓ev_eVbs, ↓ev_eVb0, ↓ev_eCall, ↓ev_eCons, ↓ev_eV0, ↓ev_eBlt, ↓ev_eNil, ↓ev_lenL]
  refine draw_k h hn (by omega) (by omega) fun x S' x0 x1 p => ?_
  obtain ⟨j, rfl⟩ := Int.eq_ofNat_of_zero_le x0
  have hj : j < ds.length := by omega
  rw [ev_ixL (atI_nat (List.getElem?_eq_getElem hj))]
  exact q _ _ (List.getElem_mem hj) p
theorem forall_dec {γ : Type} {f : γ → D} {P : γ → Prop} : ∀ {ys : List D}, (∀ y ∈ ys, ∃ x, y = f x ∧ P x) → ∃ xs : List γ, ys = xs.map f ∧ ∀ x ∈ xs, P x
  | [], _ => ⟨[], rfl, fun x hx => absurd hx (by simp)⟩
  | y :: ys, h => by
    obtain ⟨x, e, p⟩ := h y (by simp)
    obtain ⟨xs, e2, p2⟩ := forall_dec (ys := ys) fun z hz => h z (by simp [hz])
    refine ⟨x :: xs, by rw [e, e2]; rfl, fun z hz => ?_⟩
    rcases List.mem_cons.mp hz with r | r
    · rw [r]; exact p
    · exact p2 z r
theorem pairs_k (h : PenOk n S) (hn : n < 1000000) (q : ∀ (ps : List P2) (S' : Sto), ps.length ≤ 5 → (∀ p ∈ ps, 1 ≤ p.1 ∧ p.1 ≤ 9 ∧ 0 ≤ p.2 ∧ p.2 ≤ 9) → PenOk (n + 11) S' → Q (.lst (ps.map dPair)) S') : Ev (φ__law_pairs [.mu 0, .int 9] S) Q := by
  rw [e__law_pairs]
  unfold b__law_pairs
  simp only [↓es_ret, ↓ev_eLst, ↓ev_eComp, ↓ev_iRg1, ↓ev_eCall, ↓ev_eCons, ↓ev_eV0, ↓ev_eDsp, ↓ev_eC, ↓ev_eNil]
  refine ⟨by decide, ?_⟩
  refine pick_k h (by omega) (by simp) (by simp) fun d S1 hd p1 => ?_
  have hk : ∃ k : Nat, d = .int (k : Int) ∧ k ≤ 5 := by
    simp only [List.mem_cons, List.not_mem_nil, or_false] at hd
    rcases hd with rfl | rfl | rfl | rfl | rfl | rfl | rfl
    · exact ⟨0, rfl, by omega⟩
    · exact ⟨1, rfl, by omega⟩
    · exact ⟨1, rfl, by omega⟩
    · exact ⟨2, rfl, by omega⟩
    · exact ⟨3, rfl, by omega⟩
    · exact ⟨4, rfl, by omega⟩
    · exact ⟨5, rfl, by omega⟩
  obtain ⟨k, rfl, hk⟩ := hk
  refine ⟨by omega, ?_⟩
  simp only [↓ww_s, ↓ww_0, ↓ws_s, ↓ws_0]
  unfold rangeD
  refine Ev.imp (compGo_st (fun i : Nat => D.int (0 + (i : Int))) (fun j S => PenOk (n + 1 + 2 * (j : Int)) S) (fun _ y => ∃ p : P2, y = dPair p ∧ 1 ≤ p.1 ∧ p.1 ≤ 9 ∧ 0 ≤ p.2 ∧ p.2 ≤ 9) (List.range (k : Int).toNat) 0 S1 (fun x hx j S2 hj p2 => ?_) (p1.mono (by omega))) fun ys S2 ⟨p2, hl, hy⟩ => ?_
  · rw [List.length_range] at hj
    simp only [↓wg_n, ↓ws_0, ↓ws_s, ↓ev_eTup, ↓ev_eCons, ↓ev_eBin, ↓ev_eC, ↓ev_eCall, ↓ev_eV0, ↓ev_eVs, ↓ev_eNil]
    refine draw_k p2 (by omega) (by omega) (by omega) fun a S3 a0 a1 p3 => ?_
    simp only [↓ev_oAdd, ↓ev_eVbs, ↓ev_eVb0]
    refine draw_k p3 (by omega) (by omega) (by omega) fun c S4 c0 c1 p4 => ?_
    exact ⟨by show 2 ≤ 1000; decide, p4.mono (by omega), (1 + a, c), rfl, by omega, by omega, by omega, by omega⟩
  · rw [List.length_range] at p2 hl
    obtain ⟨ps, e, hps⟩ := forall_dec (f := dPair) (P := fun p : P2 => 1 ≤ p.1 ∧ p.1 ≤ 9 ∧ 0 ≤ p.2 ∧ p.2 ≤ 9) fun y hyy => by
      obtain ⟨_, _, p, e, h⟩ := hy y hyy
      exact ⟨p, e, h⟩
    subst e
    rw [List.length_map] at hl
    exact q ps S2 (by omega) hps (p2.mono (by omega))
theorem ne_ints (ns : List Int) (Q : D → Sto → Prop) : Ev (oNe (.lst (ns.map .int)) (.lst []) S) Q = Q (.bl (!decide (ns = []))) S := (eqE_lst eqE_int).oNe (by decide) ns [] S Q
theorem foldl_min_mem : ∀ (ns : List Int) (n : Int), ns.foldl min n = n ∨ ns.foldl min n ∈ ns
  | [], n => .inl rfl
  | x :: ns, n => by
    rw [List.foldl_cons]
    rcases foldl_min_mem ns (min n x) with h | h
    · rw [h]
      rcases Int.le_total n x with z | z
      · exact .inl (by omega)
      · exact .inr (by rw [show min n x = x by omega]; simp)
    · exact .inr (by simp [h])
theorem rangeD_map (lo : Int) (n : Nat) : rangeD lo n = (List.range n).map fun (i : Nat) => D.int (lo + (i : Int)) := rfl
theorem byLimits_k {ps : List P2} {most : Int} (h0 : 0 ≤ most) (h1 : most ≤ 1000) (hp : ∀ p ∈ ps, 0 ≤ p.2) (q : ∀ row : List (Option Int), row.length = most.toNat → (∀ x, some x ∈ row → 0 ≤ x) → Q (.lst (row.map dOpt)) S) : Ev (φ__law_by_limits [.lst (ps.map dPair), .int most] S) Q := by
  rw [e__law_by_limits]
  unfold b__law_by_limits
  simp only [↓es_seq, ↓es_new, ↓ev_eDsp, ↓ev_eNil]
  refine ⟨by decide, ?_⟩
  simp only [↓ws_s, ↓ws_0, ↓es_for, ↓ev_iRg2, ↓ev_eC, ↓ev_eBin, ↓ev_eVbs, ↓ev_eVb0, ↓ev_oAdd]
  refine ⟨by omega, ?_⟩
  refine forGo_inv (fun j env S' => S' = S ∧ ∃ (row : List (Option Int)) (x3 x4 : Option Slot), env = [some (.sh (.lst (ps.map dPair))), some (.sh (.int most)), some (.own (row.map dOpt)), x3, x4, none, none] ∧ row.length = j ∧ ∀ x, some x ∈ row → 0 ≤ x) (rangeD 1 (most + 1 - 1).toNat) 0 ?_ _ _ ⟨rfl, [], none, none, rfl, rfl, fun x hx => absurd hx (by simp)⟩ ?_
  · rintro j d env S' hd ⟨rfl, row, x3, x4, rfl, hl, hr⟩
    have hj : j < (most + 1 - 1).toNat := by
      have := (List.getElem?_eq_some_iff.mp hd).1
      rwa [rangeD_len] at this
    rw [rangeD_get hj] at hd
    cases hd
    simp only [↓wg_n, ↓ws_0, ↓ws_s, ↓es_seq, ↓es_set, ↓ev_eLst, ↓ev_eComp, ↓ev_iD, ↓ev_eV0, ↓wq_l, ↓ww_0, ↓ww_s]
    rw [compGo_pure dPair (fun p => decide (p.1 ≤ 1 + (j : Int)) && decide (p.2 ≤ 1 + (j : Int))) (fun p => .int p.2) ps fun p hp => by
      by_cases a : p.1 ≤ 1 + (j : Int)
      · simp [a]
      · simp [a]]
    rw [show ((ps.filter fun p => decide (p.1 ≤ 1 + (j : Int)) && decide (p.2 ≤ 1 + (j : Int))).map fun p => D.int p.2) = ((ps.filter fun p => decide (p.1 ≤ 1 + (j : Int)) && decide (p.2 ≤ 1 + (j : Int))).map Prod.snd).map D.int by rw [List.map_map]; rfl]
    have hmem : ∀ x ∈ (ps.filter fun p => decide (p.1 ≤ 1 + (j : Int)) && decide (p.2 ≤ 1 + (j : Int))).map Prod.snd, 0 ≤ x := fun x hx => by
      obtain ⟨p, hpp, e⟩ := List.mem_map.mp hx
      rw [← e]
      exact hp p (List.mem_filter.mp hpp).1
    generalize (ps.filter fun p => decide (p.1 ≤ 1 + (j : Int)) && decide (p.2 ≤ 1 + (j : Int))).map Prod.snd = ns at *
    have hlr : row.length < 1000000 := by omega
    cases ns with
    | nil =>
      simp [↓ne_ints, hlr]
      exact ⟨row ++ [none], by simp [opt_non], by simp; omega, fun x hx => hr x (by simpa using hx)⟩
    | cons m ms =>
      simp only [↓ws_0, ↓ws_s, ↓es_app, ↓ev_eIf, ↓ev_eTst, ↓ev_eBin, ↓ev_eVbs, ↓ev_eVb0, ↓ev_eLst, ↓ev_eDsp, ↓ev_eNil]
      refine ⟨by decide, ?_⟩
      simp [↓ne_ints, ↓ev_minL, hlr]
      refine ⟨row ++ [some (ms.foldl min m)], by simp [opt_int], by simp; omega, fun x hx => ?_⟩
      rcases List.mem_append.mp hx with z | z
      · exact hr x z
      · have e : x = ms.foldl min m := by simpa using z
        rw [e]
        rcases foldl_min_mem ms m with y | y
        · rw [y]; exact hmem m (by simp)
        · exact hmem _ (by simp [y])
  · rintro env S' ⟨rfl, row, x3, x4, rfl, hl, hr⟩
    rw [Nat.zero_add, rangeD_len] at hl
    simp
    exact q row (by omega) hr
/-- what is known of a stair in the making, behind the limits below j -/
def Mk (j : Nat) (s : List P2) : Prop := s.length ≤ j ∧ (∀ p ∈ s, 1 ≤ p.1 ∧ p.1 < j ∧ 0 ≤ p.2 ∧ p.2 ≤ p.1) ∧ s.Pairwise Falls
theorem Mk.mono {j : Nat} {s : List P2} (h : Mk j s) : Mk (j + 1) s := ⟨by have := h.1; omega, fun p hp => by have := h.2.1 p hp; omega, h.2.2⟩
theorem Mk.snoc {j : Nat} {s : List P2} {v : Int} (h : Mk j s) (h1 : 1 ≤ j) (h2 : 0 ≤ v) (h3 : v ≤ j) (h4 : ∀ q, s.getLast? = some q → v < q.2) : Mk (j + 1) (s ++ [((j : Int), v)]) := by
  refine ⟨by have := h.1; simp; omega, fun p hp => ?_, ?_⟩
  · rcases List.mem_append.mp hp with z | z
    · have := h.2.1 p z; omega
    · have e : p = ((j : Int), v) := by simpa using z
      rw [e]
      show 1 ≤ (j : Int) ∧ (j : Int) < (j + 1 : Nat) ∧ 0 ≤ v ∧ v ≤ (j : Int)
      omega
  · rw [List.pairwise_append]
    refine ⟨h.2.2, List.pairwise_singleton _ _, fun p hp r hr => ?_⟩
    have e : r = ((j : Int), v) := by simpa using hr
    rw [e]
    refine ⟨(h.2.1 p hp).2.1, ?_⟩
    show v < p.2
    rcases snoc_of s with z | ⟨f, q, z⟩
    · rw [z] at hp; exact absurd hp (by simp)
    · have hq := h4 q (by rw [z, List.getLast?_concat])
      rw [z] at hp
      rcases List.mem_append.mp hp with y | y
      · have := h.2.2
        rw [z, List.pairwise_append] at this
        have := (this.2.2 p y q (by simp)).2
        omega
      · have e2 : p = q := by simpa using y
        rw [e2]; exact hq
theorem ofLimits_k {row : List (Option Int)} (hl : row.length ≤ 1000) (hr : ∀ x, some x ∈ row → 0 ≤ x) (q : ∀ s : List P2, Stair row.length s → s.length ≤ row.length + 1 → Q (dStair s) S) : Ev (φ__law_of_limits [.lst (row.map dOpt)] S) Q := by
  rw [e__law_of_limits]
  unfold b__law_of_limits
  simp only [↓es_seq, ↓es_new, ↓ev_eDsp, ↓ev_eNil]
  refine ⟨by decide, ?_⟩
  simp only [↓ws_s, ↓ws_0, ↓es_for, ↓ev_iD, ↓ev_eLst, ↓ev_eListEn, ↓ev_eCatN, ↓ev_eDsp, ↓ev_eCons, ↓ev_eC, ↓ev_eNil, ↓ev_eBltN, ↓ev_eVb0, ↓ev_listL, ↓wq_l]
  refine ⟨by show 1 ≤ 1000; decide, by simp; omega, ?_⟩
  refine forGo_inv (fun j env S' => S' = S ∧ ∃ (s : List P2) (x2 x3 : Option Slot), env = [some (.sh (.lst (row.map dOpt))), some (.own (s.map dPair)), x2, x3] ∧ Mk j s) (enD ([.non] ++ row.map dOpt)) 0 ?_ _ _ ⟨rfl, [], none, none, rfl, Nat.le_refl _, fun p hp => absurd hp (by simp), List.Pairwise.nil⟩ ?_
  · rintro j d env S' hd ⟨rfl, s, x2, x3, rfl, hs⟩
    rw [Nat.zero_add] at hs ⊢
    have hj : ∃ x : Option Int, d = .tup [.int (j : Nat), dOpt x] ∧ (x.isSome → 1 ≤ j) ∧ ∀ v, x = some v → 0 ≤ v := by
      unfold enD at hd
      rw [List.getElem?_mapIdx] at hd
      obtain ⟨y, hy, e⟩ := Option.map_eq_some_iff.mp hd
      cases j with
      | zero =>
        have e2 : y = .non := by simpa using hy.symm
        exact ⟨none, by rw [← e, e2]; rfl, fun z => (by cases z), fun v z => (by cases z)⟩
      | succ j =>
        have e2 : (row.map dOpt)[j]? = some y := by simpa using hy
        rw [List.getElem?_map] at e2
        obtain ⟨x, hx, e3⟩ := Option.map_eq_some_iff.mp e2
        exact ⟨x, by rw [← e, ← e3], fun _ => Nat.succ_pos _, fun v hv => hr v (by rw [← hv]; exact List.mem_of_getElem? hx)⟩
    obtain ⟨x, rfl, hx1, hx2⟩ := hj
    have hlen : s.length < 1000000 := by
      have h1 := (List.getElem?_eq_some_iff.mp hd).1
      rw [enD_len] at h1
      have h2 := hs.1
      simp at h1
      omega
    cases x with
    | none =>
      simp [opt_non]
      exact ⟨s, rfl, hs.mono⟩
    | some v =>
      have v0 := hx2 v rfl
      have j1 := hx1 rfl
      simp only [opt_int, ↓wg_2, ↓wg_n, ↓ws_0, ↓ws_s, ↓es_if, ↓ev_eAndT, ↓ev_eTst, ↓ev_eBin, ↓ev_eVbs, ↓ev_eVb0, ↓ev_eC, ↓ev_oIsNot, ev_isNonI, Bool.not_false, if_true, ↓ev_oLe]
      by_cases hv : v ≤ (j : Int)
      · simp only [decide_eq_true hv, if_true]
        rcases snoc_of s with h | ⟨f, q', h⟩
        · subst h
          simp [↓eq_nilP]
          exact ⟨[((j : Int), v)], by simp, hs.snoc j1 v0 hv (fun q hq => by simp at hq)⟩
        · subst h
          simp only [List.map_append, List.map_cons, List.map_nil]
          have hlen' : f.length + 1 < 1000000 := by simpa using hlen
          by_cases hlt : v < q'.2
          · simp [↓eq_snocP, hlt, hlen']
            exact ⟨f ++ [q'] ++ [((j : Int), v)], by simp, hs.snoc j1 v0 hv (fun q hq => by rw [List.getLast?_concat] at hq; cases hq; exact hlt)⟩
          · simp [↓eq_snocP, hlt]
            exact ⟨f ++ [q'], by simp, hs.mono⟩
      · simp [hv]
        exact ⟨s, rfl, hs.mono⟩
  · rintro env S' ⟨rfl, s, x2, x3, rfl, hs⟩
    rw [Nat.zero_add, enD_len] at hs
    simp
    have hz : ([D.non] ++ row.map dOpt).length = row.length + 1 := by simp
    rw [hz] at hs
    exact q s ⟨fun p hp => by have := hs.2.1 p hp; omega, hs.2.2⟩ (by have := hs.1; omega)
end
end DL

namespace DL
open PySem PySem.Spec PyProof.Rows L2
section
variable {S : Sto} {Q : D → Sto → Prop} {n : Int}
theorem ne_snocP (f : List P2) (q : P2) (Q : D → Sto → Prop) : Ev (oNe (.lst (f.map dPair ++ [dPair q])) (.lst []) S) Q = Q (.bl true) S := by
  have := ne_nilP (S := S) (f ++ [q]) Q
  rw [List.map_append] at this
  rw [show (f.map dPair ++ [dPair q]) = f.map dPair ++ [q].map dPair from rfl, this]
  simp
theorem foldl_max_le : ∀ (ns : List Int) (n L : Int), ns.foldl max n ≤ L ↔ n ≤ L ∧ ∀ x ∈ ns, x ≤ L
  | [], n, L => by simp
  | x :: ns, n, L => by
    rw [List.foldl_cons, foldl_max_le ns (max n x) L]
    constructor
    · rintro ⟨h, h2⟩
      refine ⟨by omega, fun y hy => ?_⟩
      rcases List.mem_cons.mp hy with e | e
      · rw [e]; omega
      · exact h2 y e
    · rintro ⟨h, h2⟩
      have := h2 x (by simp)
      exact ⟨by omega, fun y hy => h2 y (by simp [hy])⟩
/-- the greatest number of a list of pairs -/
def topOf (s : List P2) : Int := match s.map (fun p => max p.1 p.2) with
  | [] => 0
  | m :: ms => ms.foldl max m
theorem topOf_le {s : List P2} (hs : s ≠ []) {L : Int} : topOf s ≤ L ↔ ∀ p ∈ s, max p.1 p.2 ≤ L := by
  cases s with
  | nil => exact absurd rfl hs
  | cons p r =>
    show (r.map fun p => max p.1 p.2).foldl max (max p.1 p.2) ≤ L ↔ _
    rw [foldl_max_le]
    constructor
    · rintro ⟨h1, h2⟩ q hq
      rcases List.mem_cons.mp hq with e | e
      · rw [e]; exact h1
      · exact h2 _ (List.mem_map.mpr ⟨q, e, rfl⟩)
    · intro h
      refine ⟨h p (by simp), fun x hx => ?_⟩
      obtain ⟨q, hq, rfl⟩ := List.mem_map.mp hx
      exact h q (by simp [hq])
theorem most_k {xs : List (List P2)} {f : List P2 → D} (hf : f = (fun s => D.lst (s.map dPair)) ∨ f = dStair) (hl : xs.length ≤ 1000) (q : ∀ M : Int, 3 ≤ M → (∀ s ∈ xs, ∀ p ∈ s, max p.1 p.2 ≤ M - 3) → (∀ B, 0 ≤ B → (∀ s ∈ xs, ∀ p ∈ s, max p.1 p.2 ≤ B) → M ≤ B + 3) → Q (.int M) S) : Ev (φ__law_most [.lst (xs.map f)] S) Q := by
  have len_f : ∀ (s : List P2) (Q : D → Sto → Prop), Ev (bLen [f s] S) Q = Q (.int s.length) S := fun s Q => by
    rcases hf with e | e
    · subst e; simp
    · subst e; simp [dStair]
  have seq_f : ∀ (s : List P2) (k : List D → Prop), withSeq (f s) k = k (s.map dPair) := fun s k => by
    rcases hf with e | e
    · subst e; rfl
    · subst e; rfl
  rw [e__law_most]
  unfold b__law_most
  simp only [↓es_ret, ↓ev_eBin, ↓ev_eC, ↓ev_eBlt, ↓ev_eCons, ↓ev_eLst, ↓ev_eCatN, ↓ev_eDsp, ↓ev_eNil]
  refine ⟨by show 1 ≤ 1000; decide, ?_⟩
  simp only [↓ev_eComp, ↓ev_iD, ↓ev_eV0, ↓wq_l, ↓ww_0, ↓ww_s, ↓ws_0, ↓ws_s]
  rw [compGo_pure f (fun s => decide (0 < (s.length : Int))) (fun s => .int (topOf s)) xs fun s hs => by
    simp only [↓wg_n, ↓ws_0, ↓ws_s, ↓ev_eTst, ↓ev_eBin, ↓ev_eBlt, ↓ev_eCons, ↓ev_eVbs, ↓ev_eVb0, ↓ev_eNil, ↓len_f, ↓ev_eC, ↓ev_oGt]
    refine ⟨trivial, trivial, fun hk => ?_⟩
    simp only [↓ev_eLst, ↓ev_eComp, ↓ev_iD, ↓ev_eVs, ↓ev_eV0, ↓seq_f, ↓ww_0, ↓ww_s, ↓ws_0, ↓ws_s]
    rw [compGo_all dPair (fun p => .int (max p.1 p.2)) s fun p hp => by simp]
    rw [show (s.map fun p => D.int (max p.1 p.2)) = (s.map fun p => max p.1 p.2).map D.int by rw [List.map_map]; rfl]
    unfold topOf
    cases s with
    | nil => simp at hk
    | cons p r =>
      simp only [List.map_cons]
      rw [show D.int (max p.1 p.2) :: (r.map fun p => max p.1 p.2).map D.int = (max p.1 p.2 :: r.map fun p => max p.1 p.2).map D.int from rfl, ev_maxL]
      first | exact ⟨rfl, rfl⟩ | exact ⟨rfl, trivial⟩]
  have hlen : ((xs.filter fun s => decide (0 < (s.length : Int))).map fun s => D.int (topOf s)).length ≤ xs.length := by
    rw [List.length_map]; exact List.length_filter_le _ _
  refine ⟨by simp only [List.length_cons, List.length_nil]; omega, ?_⟩
  rw [show [D.int 0] ++ ((xs.filter fun s => decide (0 < (s.length : Int))).map fun s => D.int (topOf s)) = (0 :: (xs.filter fun s => decide (0 < (s.length : Int))).map topOf).map D.int by
    rw [List.map_cons, List.map_map]; rfl]
  simp only [↓ev_maxL, ↓ev_oAdd]
  have mem : ∀ x, x ∈ (xs.filter fun s => decide (0 < (s.length : Int))).map topOf ↔ ∃ s ∈ xs, s ≠ [] ∧ topOf s = x := fun x => by
    rw [List.mem_map]
    constructor
    · rintro ⟨s, hs, e⟩
      rw [List.mem_filter, decide_eq_true_eq] at hs
      exact ⟨s, hs.1, fun z => by rw [z] at hs; simp at hs, e⟩
    · rintro ⟨s, hs, hne, e⟩
      have := List.length_pos_iff.mpr hne
      exact ⟨s, by rw [List.mem_filter, decide_eq_true_eq]; exact ⟨hs, by omega⟩, e⟩
  refine q _ ?_ (fun s hs p hp => ?_) (fun B hB h => ?_)
  · have := (foldl_max_le ((xs.filter fun s => decide (0 < (s.length : Int))).map topOf) 0 _).mp (Int.le_refl _)
    omega
  · have h1 := ((foldl_max_le ((xs.filter fun s => decide (0 < (s.length : Int))).map topOf) 0 _).mp (Int.le_refl _)).2 (topOf s) ((mem _).mpr ⟨s, hs, fun z => by rw [z] at hp; exact absurd hp (by simp), rfl⟩)
    have h2 := (topOf_le (s := s) (fun z => by rw [z] at hp; exact absurd hp (by simp))).mp h1 p hp
    omega
  · have := (foldl_max_le ((xs.filter fun s => decide (0 < (s.length : Int))).map topOf) 0 B).mpr ⟨hB, fun x hx => by
      obtain ⟨s, hs, hne, e⟩ := (mem x).mp hx
      rw [← e, topOf_le hne]
      exact h s hs⟩
    omega
theorem stair_k (h : PenOk n S) (hn : n < 1000000) (q : ∀ (s : List P2) (S' : Sto), Stair 12 s → s.length ≤ 100 → PenOk (n + 11) S' → Q (dStair s) S') : Ev (φ__law_stair [.mu 0, .int 9] S) Q := by
  rw [e__law_stair]
  unfold b__law_stair
  simp only [↓es_seq, ↓es_set, ↓ev_eCall, ↓ev_eCons, ↓ev_eV0, ↓ev_eVs, ↓ev_eNil]
  refine pairs_k h hn fun ps S1 hl hp p1 => ?_
  simp only [↓ws_0, ↓ws_s, ↓es_ret, ↓ev_eCall, ↓ev_eCons, ↓ev_eVs, ↓ev_eV0, ↓ev_eNil, ↓ev_eLst, ↓ev_eDsp]
  refine ⟨by show 1 ≤ 1000; decide, ?_⟩
  rw [show [D.lst (ps.map dPair)] = [ps].map (fun s => D.lst (s.map dPair)) from rfl]
  refine most_k (.inl rfl) (by simp) fun M h3 hM hB => ?_
  have hM9 := hB 9 (by omega) (fun s hs p hp' => by
    rw [List.mem_singleton.mp hs] at hp'
    have := hp p hp'
    omega)
  refine byLimits_k (by omega) (by omega) (fun p hp' => (hp p hp').2.2.1) fun row hl2 hr => ?_
  refine ofLimits_k (by omega) hr fun s hs hl3 => ?_
  exact q s S1 (hs.mono (by omega)) (by omega) p1
theorem someStair_k (h : PenOk n S) (hn : n < 1000000) (q : ∀ (s : List P2) (S' : Sto), Stair 12 s → s ≠ [] → s.length ≤ 100 → PenOk (n + 12) S' → Q (dStair s) S') : Ev (φ__law_some_stair [.mu 0, .int 9] S) Q := by
  rw [e__law_some_stair]
  unfold b__law_some_stair
  simp only [↓es_seq, ↓es_set, ↓ev_eCall, ↓ev_eCons, ↓ev_eV0, ↓ev_eVs, ↓ev_eNil]
  refine stair_k h hn fun s S1 hs hl p1 => ?_
  simp only [↓ws_0, ↓ws_s, ↓es_ret, ↓ev_eIf, ↓ev_eTst, ↓ev_eBin, ↓ev_eVbs, ↓ev_eVb0, ↓ev_eTup, ↓ev_eNil]
  refine ⟨by show 0 ≤ 1000; decide, ?_⟩
  simp only [↓ne_emptyT]
  by_cases he : s = []
  · subst he
    simp only [decide_true, Bool.not_true, Bool.false_eq_true, if_false, ↓ev_eTup, ↓ev_eCons, ↓ev_eBin, ↓ev_eC, ↓ev_eCall, ↓ev_eV0, ↓ev_eVs, ↓ev_eNil]
    refine draw_k p1 (by omega) (by omega) (by omega) fun x S2 x0 x1 p2 => ?_
    simp only [↓ev_oAdd]
    refine ⟨by show 2 ≤ 1000; decide, by show 1 ≤ 1000; decide, ?_⟩
    exact q [(1 + x, 1)] S2 ⟨fun p hp => by
      have e : p = (1 + x, 1) := by simpa using hp
      rw [e]
      show 1 ≤ 1 + x ∧ 1 + x ≤ 12 ∧ (0:Int) ≤ 1 ∧ 1 ≤ 1 + x
      omega, List.pairwise_singleton _ _⟩ (by simp) (by simp) (p2.mono (by omega))
  · simp only [decide_eq_false he, Bool.not_false, if_true, ↓ev_eVs, ↓ev_eV0]
    exact q s S1 hs he hl (p1.mono (by omega))
/-- the law's own cut -/
theorem lawCut_ev {ps : List P2} (hl : ps.length ≤ 1000) : Ev (φ__law_cut [.lst (ps.map dPair)] S) Q = Q (dStair (cutP ps)) S := Ev.of (Ev.eq (by
  rw [e__law_cut]
  unfold b__law_cut
  simp only [↓es_seq, ↓es_set, ↓ev_eLst, ↓ev_eBltN, ↓ev_eCons, ↓ev_eComp, ↓ev_iD, ↓ev_eV0, ↓wq_l, ↓ww_0, ↓ww_s, ↓ws_0, ↓ws_s]
  rw [compGo_all dPair (fun p => dPair (max p.1 p.2, p.2)) ps fun p hp => by simp]
  simp only [↓ev_eNil, ↓corner_sort, ↓ws_0, ↓ws_s, ↓es_seq, ↓es_new, ↓ev_eDsp]
  refine ⟨by decide, ?_⟩
  simp only [↓ws_0, ↓ws_s, ↓es_for, ↓ev_iD, ↓ev_eVs, ↓ev_eV0, ↓wq_l]
  refine forGo_pre dPair (fun pre env S' => S' = S ∧ ∃ x y, env = [some (.sh (.lst (ps.map dPair))), some (.sh (.lst ((cornersOf ps).map dPair))), x, y, some (.own ((pre.foldl cutStep []).map dPair))]) (cornersOf ps) [] ?_ _ _ ⟨rfl, _, _, rfl⟩ ?_
  · rintro pre x post env S' e ⟨rfl, x2, y2, rfl⟩
    have ok := cut_pre (ps := ps) (pre := pre) (post := x :: post) e
    have hlen : (pre.foldl cutStep []).length < 1000000 := by
      have h1 := ok.len
      have h2 := corners_len ps
      rw [show cornersOf ps = pre ++ x :: post from e, List.length_append, List.length_cons] at h2
      omega
    have hsort : ∀ q ∈ pre, leP q x = true := fun q hq => by
      have hs := corners_sorted ps
      rw [show cornersOf ps = pre ++ x :: post from e] at hs
      exact (List.pairwise_append.mp hs).2.2 q hq x (by simp)
    rcases snoc_of (pre.foldl cutStep []) with h | ⟨f, q, h⟩
    · simp [fold_snoc, h, cutStep_nil, ↓eq_nilP, ↓ne_nilP]
    · have hqx := leP_iff.mp (hsort q (ok.sub q (by rw [h]; simp)))
      rw [h] at hlen
      simp only [fold_snoc, h, cutStep_snoc, List.map_append, List.map_cons, List.map_nil]
      have hlen' : f.length + 1 < 1000000 := by simpa using hlen
      have eqI : ∀ (i j : Int) (Q : D → Sto → Prop), Ev (oEq (.int i) (.int j) S') Q = Q (.bl (decide (i = j))) S' := fun i j Q => eqE_int.oEq (by decide) i j S' Q
      by_cases hx : x.2 < q.2
      · have hne : ¬ q.1 = x.1 := by omega
        simp [hx, ↓eq_snocP, ↓ne_snocP, ↓eqI, hne, hlen']
      · simp [hx, ↓eq_snocP]
  · rintro env S' ⟨rfl, x2, y2, rfl⟩
    simp [dStair, cutP]))
theorem cut_len (ps : List P2) : (cutP ps).length ≤ ps.length := by
  have := (cut_ok ps).len
  rwa [corners_len] at this
end
end DL

namespace DL
open PySem PySem.Spec PyProof.Rows L2
section
variable {S : Sto} {Q : D → Sto → Prop} {n : Int}
theorem pen_ev {ns : List Int} (hl : ns.length ≤ 63) : Ev (φ__law_pen [.lst (ns.map .int)] []) Q = Q (.mu 0) [[.lst (ns.map .int), .int 0, .int 0]] := Ev.of (Ev.eq (by
  rw [e__law_pen]
  unfold b__law_pen
  simp only [↓es_ret, ↓ev_eMu, ↓ev_eDsp, ↓ev_eCons, ↓ev_eLst, ↓ev_eComp, ↓ev_iD, oSo_int, oNo_eq, ↓ev_eSl, ↓ev_eVb0, ↓ww_0, ↓ww_s, ↓ws_0, ↓ws_s, ↓wq_l]
  have cut : cutD (ns.map D.int) none (some 63) = ns.map D.int := by
    unfold cutD
    rw [show HT.sIx (ns.map D.int).length 0 none = 0 from HT.sIx_none _ 0, show HT.sIx (ns.map D.int).length (ns.map D.int).length (some 63) = min 63 (ns.map D.int).length from HT.sIx_nat _ _ 63, List.drop_zero, Nat.sub_zero]
    exact List.take_of_length_le (by rw [List.length_map]; omega)
  rw [cut, compGo_all D.int D.int ns fun x hx => by simp]
  simp))
theorem greatestOf_ev {p q : P2} {r u : List P2} {b : Int} (hs : Stair b (p :: r)) (ht : Stair b (q :: u)) (hb : b ≤ 1000000) (hl : (p :: r).length + (q :: u).length ≤ 1000) :
    Ev (φ_greatest_of [.lst [dStair (p :: r), dStair (q :: u)]] S) Q = Q (dStair (cutP (greatPs (p :: r) (q :: u) (max p.1 q.1) (limsOf (p :: r) (q :: u) (max p.1 q.1))))) S := Ev.of (Ev.eq (by
  rw [e_greatest_of]
  unfold b_greatest_of
  simp [↓needStairs_ev hs ht hb, ↓great_ev hs ht hl]))
/-! ### what the law looks at, of two stairs -/
/-- bounds of cuts -/
theorem quiet_stair {s : List P2} {b : Int} (hs : Stair b s) : Stair (b + 1) (cutP (s.map fun p => (p.1, p.2 + 1))) := cut_stair fun p hp => by
  obtain ⟨q, hq, e⟩ := List.mem_map.mp hp
  have := hs.at_ q hq
  rw [← e]
  show 1 ≤ q.1 ∧ q.1 ≤ b + 1 ∧ 0 ≤ q.2 + 1 ∧ q.2 + 1 ≤ b + 1
  omega
theorem both_stair {s t : List P2} {b : Int} (hs : Stair b s) (ht : Stair b t) : Stair b (cutP (s ++ t)) := cut_stair fun p hp => by
  rcases List.mem_append.mp hp with h | h
  · have := hs.at_ p h; omega
  · have := ht.at_ p h; omega
theorem great_facts {p q : P2} {r u : List P2} {b : Int} (hs : Stair b (p :: r)) (ht : Stair b (q :: u)) :
    (∀ c L, Al (greatPs (p :: r) (q :: u) (max p.1 q.1) (limsOf (p :: r) (q :: u) (max p.1 q.1))) c L ↔ Al (p :: r) c L ∧ Al (q :: u) c L) ∧
    Stair b (cutP (greatPs (p :: r) (q :: u) (max p.1 q.1) (limsOf (p :: r) (q :: u) (max p.1 q.1)))) ∧ cutP (greatPs (p :: r) (q :: u) (max p.1 q.1) (limsOf (p :: r) (q :: u) (max p.1 q.1))) ≠ [] := by
  have st_mem : max p.1 q.1 ∈ limsOf (p :: r) (q :: u) (max p.1 q.1) := by
    rw [mem_lims]
    rcases Int.le_total p.1 q.1 with z | z
    · exact ⟨q, .inr (by simp), by omega, by omega⟩
    · exact ⟨p, .inl (by simp), by omega, by omega⟩
  refine ⟨fun c L => great_al hs ht (fun L h => ?_) (fun x hx h => ?_) ⟨p, by simp, by omega⟩ ⟨q, by simp, by omega⟩ st_mem (fun L h => ?_) (fun L h => ?_), cut_stair fun x hx => ?_, cut_nonempty fun z => ?_⟩
  · obtain ⟨x, _, h1, h2⟩ := mem_lims.mp h; omega
  · exact mem_lims.mpr ⟨x, hx, h, rfl⟩
  · obtain ⟨x, h0, h1, h2⟩ := mem_lims.mp h; exact ⟨x, h0, h2⟩
  · rcases Int.le_total p.1 q.1 with z | z
    · refine .inr (numIn_none.mpr fun x hx => ?_)
      rcases List.mem_cons.mp hx with e | e
      · rw [e]; omega
      · have := ((List.pairwise_cons.mp ht.fal).1 x e).1; omega
    · refine .inl (numIn_none.mpr fun x hx => ?_)
      rcases List.mem_cons.mp hx with e | e
      · rw [e]; omega
      · have := ((List.pairwise_cons.mp hs.fal).1 x e).1; omega
  · obtain ⟨L, hL, e⟩ := List.mem_map.mp hx
    obtain ⟨y, hy, h1, h2⟩ := mem_lims.mp hL
    have hLb : 1 ≤ L ∧ L ≤ b := by
      rcases hy with hy | hy
      · have := hs.at_ y hy; omega
      · have := ht.at_ y hy; omega
    have b1 : 0 ≤ (numIn (p :: r) L).getD 0 ∧ (numIn (p :: r) L).getD 0 ≤ b := by
      cases h : numIn (p :: r) L with
      | none => exact ⟨Int.le_refl 0, by show (0 : Int) ≤ b; omega⟩
      | some m => have := numIn_bounds hs h; exact ⟨this.1, by show m ≤ b; omega⟩
    have b2 : 0 ≤ (numIn (q :: u) L).getD 0 ∧ (numIn (q :: u) L).getD 0 ≤ b := by
      cases h : numIn (q :: u) L with
      | none => exact ⟨Int.le_refl 0, by show (0 : Int) ≤ b; omega⟩
      | some m => have := numIn_bounds ht h; exact ⟨this.1, by show m ≤ b; omega⟩
    rw [← e]
    show 1 ≤ L ∧ L ≤ b ∧ 0 ≤ max ((numIn (p :: r) L).getD 0) ((numIn (q :: u) L).getD 0) ∧ max ((numIn (p :: r) L).getD 0) ((numIn (q :: u) L).getD 0) ≤ b
    omega
  · unfold greatPs at z
    rw [List.map_eq_nil_iff] at z
    rw [z] at st_mem
    exact absurd st_mem (by simp)
theorem low_quiet {s : List P2} {b : Int} (hs : Stair b s) (ns : s ≠ []) (c : Nat) : lowI (cutP (s.map fun p => (p.1, p.2 + 1))) c = lowI s ((c + 1 : Nat) : Int) := by
  refine lowI_eq (cut_nonempty fun z => ns (List.map_eq_nil_iff.mp z)) ns fun L => ?_
  rw [cut_al (by omega)]
  constructor
  · rintro ⟨x, hx, h1, h2⟩
    obtain ⟨p, hp, e⟩ := List.mem_map.mp hx
    rw [← e] at h1 h2
    exact ⟨p, hp, h1, by have h2' : p.2 + 1 + (c : Int) ≤ L := h2; omega⟩
  · rintro ⟨p, hp, h1, h2⟩
    exact ⟨(p.1, p.2 + 1), List.mem_map.mpr ⟨p, hp, rfl⟩, h1, by show p.2 + 1 + (c : Int) ≤ L; omega⟩
theorem low_min {s t : List P2} (ns : s ≠ []) (nt : t ≠ []) (c : Nat) : lowI (cutP (s ++ t)) c = min (lowI s c) (lowI t c) := by
  have hne : cutP (s ++ t) ≠ [] := cut_nonempty fun z => ns (List.append_eq_nil_iff.mp z).1
  have key : ∀ L, lowI (cutP (s ++ t)) c ≤ L ↔ min (lowI s c) (lowI t c) ≤ L := fun L => by
    rw [lowI_le hne, cut_al (by omega)]
    have h1 := lowI_le ns (c := c) (L := L)
    have h2 := lowI_le nt (c := c) (L := L)
    constructor
    · rintro ⟨p, hp, h⟩
      rcases List.mem_append.mp hp with z | z
      · have := h1.mpr ⟨p, z, h⟩; omega
      · have := h2.mpr ⟨p, z, h⟩; omega
    · intro h
      rcases Int.le_total (lowI s c) (lowI t c) with z | z
      · obtain ⟨p, hp, h⟩ := h1.mp (by omega)
        exact ⟨p, List.mem_append_left _ hp, h⟩
      · obtain ⟨p, hp, h⟩ := h2.mp (by omega)
        exact ⟨p, List.mem_append_right _ hp, h⟩
  have a := (key (min (lowI s c) (lowI t c))).mpr (Int.le_refl _)
  have b := (key (lowI (cutP (s ++ t)) c)).mp (Int.le_refl _)
  omega
theorem low_max {p q : P2} {r u : List P2} {b : Int} (hs : Stair b (p :: r)) (ht : Stair b (q :: u)) (c : Nat) :
    lowI (cutP (greatPs (p :: r) (q :: u) (max p.1 q.1) (limsOf (p :: r) (q :: u) (max p.1 q.1)))) c = max (lowI (p :: r) c) (lowI (q :: u) c) := by
  obtain ⟨h0, _, hne⟩ := great_facts hs ht
  have key : ∀ L, lowI (cutP (greatPs (p :: r) (q :: u) (max p.1 q.1) (limsOf (p :: r) (q :: u) (max p.1 q.1)))) c ≤ L ↔ max (lowI (p :: r) c) (lowI (q :: u) c) ≤ L := fun L => by
    rw [lowI_le hne, cut_al (by omega), h0]
    have h1 := lowI_le (s := p :: r) (by simp) (c := c) (L := L)
    have h2 := lowI_le (s := q :: u) (by simp) (c := c) (L := L)
    rw [← h1, ← h2]
    omega
  have a := (key (max (lowI (p :: r) c) (lowI (q :: u) c))).mpr (Int.le_refl _)
  have b := (key (lowI (cutP (greatPs (p :: r) (q :: u) (max p.1 q.1) (limsOf (p :: r) (q :: u) (max p.1 q.1)))) c)).mp (Int.le_refl _)
  omega
end
end DL

namespace DL
open PySem PySem.Spec PyProof.Rows L2
def law_rest : SS := (sSeq (sSet 8 (eCall φ__law_most (eCons (eLst (eDsp (eCons (eV 3) (eCons (eV 4) eNil)))) eNil)))
    (sSeq (sAsgT (gTp 2 (gsCons (gN 9) (gsCons (gN 10) gsNil))) (eLst (eComp (iD (eTup (eCons (eV 3) (eCons (eV 4) eNil)))) (gN 11) eYes (eLst (eComp (iRg1 (eBin oMul (eC (.int 2)) (eVb 8))) (gN 12) eYes (eCall φ_least_limit (eCons (eV 11) (eCons (eV 12) eNil))) [12])) [11])))
    (sSeq (sIf (eOrT (eTst (eBin oNe (eBin oEq (eVb 9) (eVb 10)) (eBin oEq (eVb 3) (eVb 4)))) (eOrT (eTst (eBin oNe (eLst (eBltN oSorted (eCons (eVb 9) eNil))) (eVb 9))) (eTst (eBin oNe (eBin oIx (eVb 9) (eC (.int 0))) (eBin oIx (eBin oIx (eVb 3) (eC (.int 0))) (eC (.int 0))))))) (sRet (eC (.bl false))) sNil)
    (sSeq (sFor (iRg2 (eC (.int 1)) (eV 8)) (gN 13) (sSeq (sSet 14 (eLst (eComp (iEn (eV 9)) (gTp 2 (gsCons (gN 12) (gsCons (gN 15) gsNil))) (eTst (eBin oLe (eVb 15) (eVb 13))) (eV 12) [12, 15])))
    (sSeq (sSet 16 (eIf (eTst (eBin oNe (eVb 14) (eLst (eDsp eNil)))) (eBin oSub (eVb 13) (eBin oIx (eVb 14) (eNeg (eC (.int 1))))) (eC .non)))
    (sIf (eTst (eBin oNe (eCall φ_number_at (eCons (eV 3) (eCons (eV 13) eNil))) (eVb 16))) (sRet (eC (.bl false))) sNil))))
    (sSeq (sIf (eTst (eBin oNe (eLst (eComp (iRg1 (eV 8)) (gN 12) eYes (eCall φ_least_limit (eCons (eCall φ_quiet_of (eCons (eV 3) eNil)) (eCons (eV 12) eNil))) [12])) (eSl (eVb 9) (oSo (eC (.int 1))) (oSo (eBin oAdd (eVb 8) (eC (.int 1))))))) (sRet (eC (.bl false))) sNil)
    (sSeq (sIf (eTst (eBin oNe (eLst (eComp (iRg1 (eV 8)) (gN 12) eYes (eCall φ_least_limit (eCons (eCall φ_least_of (eCons (eLst (eDsp (eCons (eV 3) (eCons (eV 4) eNil)))) eNil)) (eCons (eV 12) eNil))) [12])) (eLst (eComp (iD (eSl (eLst (eListZi (eVb 9) (eVb 10))) oNo (oSo (eV 8)))) (gN 17) eYes (eBlt bMin (eCons (eVb 17) eNil)) [17])))) (sRet (eC (.bl false))) sNil)
    (sIf (eTst (eBin oNe (eLst (eComp (iRg1 (eV 8)) (gN 12) eYes (eCall φ_least_limit (eCons (eCall φ_greatest_of (eCons (eLst (eDsp (eCons (eV 3) (eCons (eV 4) eNil)))) eNil)) (eCons (eV 12) eNil))) [12])) (eLst (eComp (iD (eSl (eLst (eListZi (eVb 9) (eVb 10))) oNo (oSo (eV 8)))) (gN 17) eYes (eBlt bMax (eCons (eVb 17) eNil)) [17])))) (sRet (eC (.bl false))) sNil)))))))
section
variable {S : Sto} {Q : D → Sto → Prop}
/-! slices with any bounds -/
def withInt (d : D) (k : Int → Prop) : Prop := match d with | .int i => k i | _ => False
def withCut (d : D) (lo hi : Option Int) (k : D → Prop) : Prop := match d with | .lst xs => k (.lst (cutD xs lo hi)) | .tup xs => k (.tup (cutD xs lo hi)) | _ => False
theorem wi_i {i : Int} {k : Int → Prop} : withInt (.int i) k = k i := rfl
theorem wc_l {xs : List D} {lo hi : Option Int} {k : D → Prop} : withCut (.lst xs) lo hi k = k (.lst (cutD xs lo hi)) := rfl
theorem wc_t {xs : List D} {lo hi : Option Int} {k : D → Prop} : withCut (.tup xs) lo hi k = k (.tup (cutD xs lo hi)) := rfl
theorem ev_oNo {env : Env} {k : Option Int → Sto → Prop} : Ev (oNo env S) k = k none S := Ev.of rfl
theorem ev_oSo {env : Env} {f : EE} {k : Option Int → Sto → Prop} : Ev (oSo f env S) k = Ev (f env S) fun d S => withInt d fun i => k (some i) S := by
  show Ev (Res.bind _ _) k = _
  rw [Ev.bind]
  congr 1
  funext d S
  cases d <;> first | exact Ev.of rfl | exact ev_no
theorem ev_eSlG {f : EE} {u v : EO} {env : Env} : Ev (eSl f u v env S) Q = Ev (f env S) fun d S => Ev (u env S) fun lo S => Ev (v env S) fun hi S => withCut d lo hi fun d' => Q d' S := by
  show Ev (Res.bind _ _) Q = _
  simp only [Ev.bind]
  congr 1
  funext d S
  congr 1
  funext lo S
  congr 1
  funext hi S
  cases d <;> first | exact Ev.of rfl | exact ev_no
def mineL (s : List P2) (m : Nat) : List Int := (List.range (2 * m)).map fun (c : Nat) => lowI s (c : Int)
theorem mine_map (s : List P2) (m : Nat) : (mineL s m).map D.int = (List.range (2 * m)).map fun (c : Nat) => D.int (lowI s (c : Int)) := by unfold mineL; rw [List.map_map]; rfl
theorem eq_ints (a b : List Int) (Q : D → Sto → Prop) : Ev (oEq (.lst (a.map .int)) (.lst (b.map .int)) S) Q = Q (.bl (decide (a = b))) S := (eqE_lst eqE_int).oEq (by decide) a b S Q
theorem neq_ints (a b : List Int) (Q : D → Sto → Prop) : Ev (oNe (.lst (a.map .int)) (.lst (b.map .int)) S) Q = Q (.bl (!decide (a = b))) S := (eqE_lst eqE_int).oNe (by decide) a b S Q
theorem eq_stairs (a b : List P2) (Q : D → Sto → Prop) : Ev (oEq (dStair a) (dStair b) S) Q = Q (.bl (decide (a = b))) S := eqE_stair.oEq (by decide) a b S Q
theorem ne_bl (a b : Bool) (h : a = b) (Q : D → Sto → Prop) : Ev (oNe (.bl a) (.bl b) S) Q = Q (.bl false) S := by
  subst h
  rw [ev_oNe (by cases a <;> rfl) (by cases a <;> rfl)]
  have : eqD (.bl a) (.bl a) = true := by
    show PyData.eqv (.bool a) (.bool a) = true
    simp [PyData.eqv]
  rw [this]
  rfl
theorem ne_int_same (i : Int) (Q : D → Sto → Prop) : Ev (oNe (.int i) (.int i) S) Q = Q (.bl false) S := by
  rw [show Ev (oNe (.int i) (.int i) S) Q = Q (.bl (!decide (i = i))) S from eqE_int.oNe (by decide) i i S Q]
  simp
theorem ne_opt_same (x : Option Int) (Q : D → Sto → Prop) : Ev (oNe (dOpt x) (dOpt x) S) Q = Q (.bl false) S := by
  rw [show Ev (oNe (dOpt x) (dOpt x) S) Q = Q (.bl (!decide (x = x))) S from eqE_opt.oNe (by decide) x x S Q]
  simp
theorem mine_sorted {s : List P2} (ns : s ≠ []) (m : Nat) : (mineL s m).mergeSort (fun a b => decide (a ≤ b)) = mineL s m := by
  refine List.mergeSort_of_pairwise ?_
  unfold mineL
  rw [List.pairwise_map]
  refine List.Pairwise.imp ?_ List.pairwise_lt_range
  intro a b h
  rw [decide_eq_true_eq]
  exact lowI_mono ns (by omega)
theorem ne_nil_nil (Q : D → Sto → Prop) : Ev (oNe (.lst []) (.lst []) S) Q = Q (.bl false) S := (eqE_lst eqE_int).oNe (by decide) [] [] S Q
theorem ne_range (k : Nat) (Q : D → Sto → Prop) : Ev (oNe (.lst (((List.range k).map fun (c : Nat) => D.int (c : Int)) ++ [.int (k : Int)])) (.lst []) S) Q = Q (.bl true) S := by
  have h := ne_ints (S := S) (((List.range k).map fun (c : Nat) => (c : Int)) ++ [(k : Int)]) Q
  rw [List.map_append, List.map_map] at h
  rw [show (((List.range k).map fun (c : Nat) => D.int (c : Int)) ++ [D.int (k : Int)]) = ((List.range k).map (D.int ∘ fun (c : Nat) => (c : Int))) ++ [(k : Int)].map D.int from rfl, h]
  simp
theorem ne_same {α : Type} (f : α → Int) (xs : List α) (Q : D → Sto → Prop) : Ev (oNe (.lst (xs.map fun c => D.int (f c))) (.lst (xs.map fun c => D.int (f c))) S) Q = Q (.bl false) S := by
  have h := neq_ints (S := S) (xs.map f) (xs.map f) Q
  rw [List.map_map] at h
  rw [show (xs.map fun c => D.int (f c)) = xs.map (D.int ∘ f) from rfl, h]
  simp
theorem checks_k {s t : List P2} (hs : Stair 13 s) (ht : Stair 13 t) (ns : s ≠ []) (nt : t ≠ []) (hl : s.length + t.length ≤ 900) {A : D} {x2 x5 x6 x7 x8 x9 x10 x11 x12 x13 x14 x15 x16 x17 : Option Slot} {nx bk ct : Env → Sto → Prop} {rt : D → Sto → Prop}
    (q : ∀ y8 y9 y10 y13 y14 y16, nx [some (.sh A), some (.sh (.mu 0)), x2, some (.sh (dStair s)), some (.sh (dStair t)), x5, x6, x7, y8, y9, y10, x11, x12, y13, y14, x15, y16, x17] S) :
    EvS (law_rest [some (.sh A), some (.sh (.mu 0)), x2, some (.sh (dStair s)), some (.sh (dStair t)), x5, x6, x7, x8, x9, x10, x11, x12, x13, x14, x15, x16, x17] S) nx rt bk ct := by
  unfold law_rest
  simp only [↓es_seq, ↓es_set, ↓ev_eCall, ↓ev_eCons, ↓ev_eV0, ↓ev_eVs, ↓ev_eNil, ↓ev_eLst, ↓ev_eDsp]
  refine ⟨by show 2 ≤ 1000; decide, ?_⟩
  rw [show [dStair s, dStair t] = [s, t].map dStair from rfl]
  refine most_k (.inr rfl) (by simp) fun M h3 hM hB => ?_
  have hM16 := hB 13 (by omega) (fun x hx p hp => by
    have hx' : Stair 13 x := by
      rcases List.mem_cons.mp hx with e | e
      · rw [e]; exact hs
      · rw [List.mem_singleton.mp e]; exact ht
    have := hx'.at_ p hp
    omega)
  obtain ⟨m, rfl⟩ := Int.eq_ofNat_of_zero_le (show 0 ≤ M by omega)
  have hs' : Stair ((m : Int) - 3) s := ⟨fun p hp => by have h1 := hs.at_ p hp; have h2 := hM s (by simp) p hp; omega, hs.fal⟩
  have ht' : Stair ((m : Int) - 3) t := ⟨fun p hp => by have h1 := ht.at_ p hp; have h2 := hM t (by simp) p hp; omega, ht.fal⟩
  have cmine : ∀ (x : List P2), Stair ((m : Int) - 3) x → x ≠ [] → ∀ (c : Nat), c ∈ List.range (2 * m) → ∀ Q : D → Sto → Prop, Ev (φ_least_limit [dStair x, .int (c : Nat)] S) Q = Q (.int (lowI x (c : Int))) S := fun x hx nx c hc Q =>
    leastLimit_ev hx (by omega) nx (by omega) (by rw [List.mem_range] at hc; omega)
  -- mine, its
  simp only [↓ws_0, ↓ws_s, ↓es_asgT, ↓ev_eLst, ↓ev_eComp, ↓ev_iD, ↓ev_eTup, ↓ev_eCons, ↓ev_eV0, ↓ev_eVs, ↓ev_eNil]
  refine ⟨by show 2 ≤ 1000; decide, ?_⟩
  simp only [↓wq_t, ↓ww_0, ↓ww_s, ↓ws_0, ↓ws_s]
  rw [show [dStair s, dStair t] = [s, t].map dStair from rfl, compGo_all dStair (fun x => .lst ((mineL x m).map .int)) [s, t] fun x hx => by
    have hx' : Stair ((m : Int) - 3) x ∧ x ≠ [] := by
      rcases List.mem_cons.mp hx with e | e
      · rw [e]; exact ⟨hs', ns⟩
      · rw [List.mem_singleton.mp e]; exact ⟨ht', nt⟩
    simp (disch := omega) only [↓wg_n, ↓ws_0, ↓ws_s, ↓ev_eLst, ↓ev_eComp, ↓ev_iRg1, ↓ev_eBin, ↓ev_eC, ↓ev_eVbs, ↓ev_eVb0, ↓ev_oMul]
    refine ⟨by omega, ?_⟩
    simp only [↓ww_0, ↓ww_s, ↓ws_0, ↓ws_s]
    rw [rangeD_map, show (2 * (m : Int)).toNat = 2 * m by omega, compGo_all (fun (i : Nat) => D.int (0 + (i : Int))) (fun (c : Nat) => D.int (lowI x (c : Int))) (List.range (2 * m)) fun c hc => by
      simp only [↓wg_n, ↓ws_0, ↓ws_s, ↓ev_eCall, ↓ev_eCons, ↓ev_eV0, ↓ev_eVs, ↓ev_eNil, Int.zero_add, ↓cmine x hx'.1 hx'.2 c hc]
      first | exact ⟨rfl, rfl⟩ | exact ⟨rfl, trivial⟩ | exact ⟨trivial, trivial⟩]
    rw [mine_map]
    first | exact ⟨rfl, rfl⟩ | exact ⟨rfl, trivial⟩ | exact ⟨trivial, trivial⟩]
  rw [show List.map (fun x => D.lst ((mineL x m).map D.int)) [s, t] = [.lst ((mineL s m).map .int), .lst ((mineL t m).map .int)] from rfl]
  -- the first look
  have f1 : decide (mineL s m = mineL t m) = decide (s = t) := by
    rw [Bool.eq_iff_iff, decide_eq_true_eq, decide_eq_true_eq]
    constructor
    · intro h
      refine low_tells hs' ht' ns nt (n := 2 * m) (by omega) fun c hc => ?_
      have e1 : (mineL s m)[c]? = some (lowI s (c : Int)) := by unfold mineL; rw [List.getElem?_map, List.getElem?_range hc]; rfl
      have e2 : (mineL t m)[c]? = some (lowI t (c : Int)) := by unfold mineL; rw [List.getElem?_map, List.getElem?_range hc]; rfl
      rw [h, e2] at e1
      exact (Option.some.inj e1).symm
    · intro h; rw [h]
  simp only [↓wg_2l, ↓wg_n, ↓ws_0, ↓ws_s, ↓es_if, ↓ev_eOrT, ↓ev_eTst, ↓ev_eBin, ↓ev_eVbs, ↓ev_eVb0, ↓eq_ints, ↓eq_stairs, ↓ne_bl _ _ f1, Bool.false_eq_true, if_false, ↓ev_eLst, ↓ev_eBltN, ↓ev_eCons, ↓ev_eVs, ↓ev_eV0, ↓ev_eNil, ↓ev_sortI, mine_sorted ns, ↓neq_ints, decide_true, Bool.not_true, ↓ev_eC]
  obtain ⟨p, r, rfl⟩ : ∃ p r, s = p :: r := by
    cases s with
    | nil => exact absurd rfl ns
    | cons p r => exact ⟨p, r, rfl⟩
  have at0 : atI ((mineL (p :: r) m).map D.int) 0 = some (.int p.1) := by
    refine atI_nat (j := 0) ?_
    rw [List.getElem?_map]
    unfold mineL
    rw [List.getElem?_map, List.getElem?_range (by omega)]
    show some (D.int (lowI (p :: r) ((0 : Nat) : Int))) = _
    rw [show ((0 : Nat) : Int) = 0 from rfl, lowI_zero hs']
  simp only [↓ev_ixL at0, ↓head_ev, ↓ev_p0, ↓ne_int_same, Bool.false_eq_true, if_false, ↓es_nil]
  -- limit by limit
  simp only [↓es_for, ↓ev_iRg2, ↓ev_eC, ↓ev_eV0, ↓ev_eVs]
  refine ⟨by omega, ?_⟩
  refine forGo_inv (fun j env S' => S' = S ∧ ∃ y13 y14 y16, env = [some (.sh A), some (.sh (.mu 0)), x2, some (.sh (dStair (p :: r))), some (.sh (dStair t)), x5, x6, x7, some (.sh (.int (m : Int))), some (.sh (.lst ((mineL (p :: r) m).map .int))), some (.sh (.lst ((mineL t m).map .int))), x11, x12, y13, y14, x15, y16, x17])
    (rangeD 1 ((m : Int) - 1).toNat) 0 ?_ _ _ ⟨rfl, _, _, _, rfl⟩ ?_
  · rintro j d env S' hd ⟨rfl, y13, y14, y16, rfl⟩
    have hj : j < ((m : Int) - 1).toNat := by
      have := (List.getElem?_eq_some_iff.mp hd).1
      rwa [rangeD_len] at this
    rw [rangeD_get hj] at hd
    cases hd
    simp only [↓wg_n, ↓ws_0, ↓ws_s, ↓es_seq, ↓es_set, ↓ev_eLst, ↓ev_eComp, ↓ev_iEn, ↓ev_eV0, ↓ev_eVs, ↓wq_l, ↓ww_0, ↓ww_s]
    obtain ⟨K, hK, hK2⟩ : ∃ K : Nat, (∀ c : Nat, lowI (p :: r) (c : Int) ≤ 1 + (j : Int) ↔ c < K) ∧ (match numIn (p :: r) (1 + (j : Int)) with | some n => (K : Int) = 1 + (j : Int) - n + 1 | none => K = 0) := by
      cases h : numIn (p :: r) (1 + (j : Int)) with
      | none =>
        refine ⟨0, fun c => ?_, rfl⟩
        rw [low_le_iff hs' ns, h]
        show (c : Int) < 0 ↔ c < 0
        omega
      | some n =>
        have hb := numIn_bounds hs' h
        obtain ⟨k, hk⟩ := Int.eq_ofNat_of_zero_le (show 0 ≤ 1 + (j : Int) - n + 1 by omega)
        refine ⟨k, fun c => ?_, by show (k : Int) = _; omega⟩
        rw [low_le_iff hs' ns, h]
        show (c : Int) < 1 + (j : Int) - n + 1 ↔ c < k
        omega
    have hKm : K ≤ 2 * m := by
      cases h : numIn (p :: r) (1 + (j : Int)) with
      | none => rw [h] at hK2; have hK2' : K = 0 := hK2; omega
      | some n =>
        rw [h] at hK2
        have hK2' : (K : Int) = 1 + (j : Int) - n + 1 := hK2
        have hb := numIn_bounds hs' h
        omega
    rw [mine_map, enD_range, compGo_pure (fun c : Nat => D.tup [.int (c : Int), .int (lowI (p :: r) (c : Int))]) (fun c => decide (c < K)) (fun c => .int (c : Int)) (List.range (2 * m)) fun c hc => by
      simp [hK c]]
    rw [filter_range, Nat.min_eq_right hKm]
    simp only [↓ws_0, ↓ws_s, ↓es_seq, ↓es_set, ↓ev_eIf, ↓ev_eTst, ↓ev_eBin, ↓ev_eVbs, ↓ev_eVb0, ↓ev_eLst, ↓ev_eDsp, ↓ev_eNil]
    refine ⟨by show 0 ≤ 1000; decide, ?_⟩
    have numAt : ∀ Q : D → Sto → Prop, Ev (φ_number_at [dStair (p :: r), .int (1 + (j : Int))] S') Q = Q (dOpt (numIn (p :: r) (1 + (j : Int)))) S' := fun Q => numberAt_ev hs' (by omega) (by omega) (by omega)
    cases K with
    | zero =>
      have hnum : numIn (p :: r) (1 + (j : Int)) = none := by
        cases h : numIn (p :: r) (1 + (j : Int)) with
        | none => rfl
        | some n =>
          rw [h] at hK2
          have hK2' : ((0 : Nat) : Int) = 1 + (j : Int) - n + 1 := hK2
          have hb := numIn_bounds hs' h
          omega
      rw [hnum] at numAt
      simp only [List.range_zero, List.map_nil, ↓ne_nil_nil, Bool.false_eq_true, if_false, ↓ev_eC, ↓ws_0, ↓ws_s, ↓es_if, ↓ev_eTst, ↓ev_eBin, ↓ev_eCall, ↓ev_eCons, ↓ev_eV0, ↓ev_eVs, ↓ev_eNil, ↓numAt, ↓ev_eVbs, ↓ev_eVb0, opt_non]
      rw [show Ev (oNe D.non D.non S') _ = _ from ne_opt_same none _]
      simp only [Bool.false_eq_true, if_false, ↓es_nil]
      exact ⟨trivial, _, _, _, rfl⟩
    | succ k =>
      have hnum : numIn (p :: r) (1 + (j : Int)) = some (1 + (j : Int) - (k : Int)) := by
        cases h : numIn (p :: r) (1 + (j : Int)) with
        | none =>
          rw [h] at hK2
          have hK2' : k + 1 = 0 := hK2
          omega
        | some n =>
          rw [h] at hK2
          have hK2' : ((k + 1 : Nat) : Int) = 1 + (j : Int) - n + 1 := hK2
          congr 1
          omega
      rw [hnum] at numAt
      simp only [List.range_succ, List.map_append, List.map_cons, List.map_nil, ↓ne_range, if_true, ↓ev_eBin, ↓ev_eVbs, ↓ev_eVb0, ↓ev_eNegI, ↓ev_lastA, ↓ev_oSub, ↓ws_0, ↓ws_s, ↓es_if, ↓ev_eTst, ↓ev_eCall, ↓ev_eCons, ↓ev_eV0, ↓ev_eVs, ↓ev_eNil, ↓numAt, opt_int, ↓ne_int_same, Bool.false_eq_true, if_false, ↓es_nil]
      exact ⟨trivial, _, _, _, rfl⟩
  · rintro env S' ⟨rfl, y13, y14, y16, rfl⟩
    have hq := quiet_stair hs'
    have hqn : cutP ((p :: r).map fun p => (p.1, p.2 + 1)) ≠ [] := cut_nonempty (by simp)
    have hl1 : (p :: r).length ≤ 1000 := by omega
    have rg : ((m : Int)).toNat = m := by omega
    -- quiet
    simp (disch := omega) only [↓ev_eComp, ↓ev_iRg1, ↓ev_eVs, ↓ev_eV0]
    refine ⟨by omega, ?_⟩
    simp only [↓ww_0, ↓ww_s, ↓ws_0, ↓ws_s]
    rw [rangeD_map, rg, compGo_all (fun (i : Nat) => D.int (0 + (i : Int))) (fun (c : Nat) => D.int (lowI (p :: r) ((c + 1 : Nat) : Int))) (List.range m) fun c hc => by
      rw [List.mem_range] at hc
      simp only [↓wg_n, ↓ws_0, ↓ws_s, ↓ev_eCall, ↓ev_eCons, ↓ev_eV0, ↓ev_eVs, ↓ev_eNil, Int.zero_add, ↓quietOf_ev hs' (show (m : Int) - 3 ≤ 1000000 by omega) hl1, ↓leastLimit_ev hq (show (m : Int) - 3 + 1 ≤ 1000000 by omega) hqn (show 0 ≤ (c : Int) by omega) (show (c : Int) ≤ 1000000 by omega), low_quiet hs' ns c]
      first | exact ⟨rfl, rfl⟩ | exact ⟨rfl, trivial⟩ | exact ⟨trivial, trivial⟩]
    simp only [↓ev_eSlG, ↓ev_eVbs, ↓ev_eVb0, ↓ev_oSo, ↓ev_eC, ↓wi_i, ↓ev_eBin, ↓ev_oAdd, ↓wc_l]
    rw [mine_map, cut_from_to (fun (c : Nat) => D.int (lowI (p :: r) (c : Int))) (show m + 1 ≤ 2 * m by omega)]
    rw [ne_same (fun (c : Nat) => lowI (p :: r) ((c + 1 : Nat) : Int)) (List.range m)]
    simp only [Bool.false_eq_true, if_false]
    -- the lesser of two
    have hm2 := both_stair hs' ht'
    have hmn : cutP ((p :: r) ++ t) ≠ [] := cut_nonempty (by simp)
    refine ⟨by omega, ?_⟩
    rw [compGo_all (fun (i : Nat) => D.int (0 + (i : Int))) (fun (c : Nat) => D.int (min (lowI (p :: r) (c : Int)) (lowI t (c : Int)))) (List.range m) fun c hc => by
      rw [List.mem_range] at hc
      simp only [↓wg_n, ↓ws_0, ↓ws_s, ↓ev_eCall, ↓ev_eCons, ↓ev_eV0, ↓ev_eVs, ↓ev_eNil, Int.zero_add, ↓ev_eLst, ↓ev_eDsp]
      refine ⟨by show 2 ≤ 1000; decide, ?_⟩
      simp only [↓leastOf_ev hs' ht' (show (m : Int) - 3 ≤ 1000000 by omega) (show (p :: r).length + t.length ≤ 1000 by omega), ↓leastLimit_ev hm2 (show (m : Int) - 3 ≤ 1000000 by omega) hmn (show 0 ≤ (c : Int) by omega) (show (c : Int) ≤ 1000000 by omega), low_min ns nt c]
      first | exact ⟨rfl, rfl⟩ | exact ⟨rfl, trivial⟩ | exact ⟨trivial, trivial⟩]
    have zz : zipD ((List.range (2 * m)).map fun (c : Nat) => D.int (lowI (p :: r) (c : Int))) ((mineL t m).map D.int) = (List.range (2 * m)).map fun (c : Nat) => D.tup [.int (lowI (p :: r) (c : Int)), .int (lowI t (c : Int))] := by
      rw [mine_map, zipD_range]
    simp only [↓ev_iD, ↓ev_eSlG, ↓ev_eLst, ↓ev_eListZi, ↓ev_eVbs, ↓ev_eVb0, ↓ev_oNo, ↓ev_oSo, ↓ev_eV0, ↓ev_eVs, ↓wi_i, ↓wc_l, ↓wq_l]
    rw [zz, cut_to (fun (c : Nat) => D.tup [.int (lowI (p :: r) (c : Int)), .int (lowI t (c : Int))]) (show m ≤ 2 * m by omega)]
    rw [compGo_all (fun (c : Nat) => D.tup [.int (lowI (p :: r) (c : Int)), .int (lowI t (c : Int))]) (fun (c : Nat) => D.int (min (lowI (p :: r) (c : Int)) (lowI t (c : Int)))) (List.range m) fun c hc => by simp]
    rw [ne_same (fun (c : Nat) => min (lowI (p :: r) (c : Int)) (lowI t (c : Int))) (List.range m)]
    simp only [Bool.false_eq_true, if_false]
    -- the greater of two
    obtain ⟨q0, u, rfl⟩ : ∃ q0 u, t = q0 :: u := by
      cases t with
      | nil => exact absurd rfl nt
      | cons q0 u => exact ⟨q0, u, rfl⟩
    obtain ⟨_, hg, hgn⟩ := great_facts hs' ht'
    refine ⟨by omega, ?_⟩
    rw [compGo_all (fun (i : Nat) => D.int (0 + (i : Int))) (fun (c : Nat) => D.int (max (lowI (p :: r) (c : Int)) (lowI (q0 :: u) (c : Int)))) (List.range m) fun c hc => by
      rw [List.mem_range] at hc
      simp only [↓wg_n, ↓ws_0, ↓ws_s, ↓ev_eCall, ↓ev_eCons, ↓ev_eV0, ↓ev_eVs, ↓ev_eNil, Int.zero_add, ↓ev_eLst, ↓ev_eDsp]
      refine ⟨by show 2 ≤ 1000; decide, ?_⟩
      simp only [↓greatestOf_ev hs' ht' (show (m : Int) - 3 ≤ 1000000 by omega) (show (p :: r).length + (q0 :: u).length ≤ 1000 by omega), ↓leastLimit_ev hg (show (m : Int) - 3 ≤ 1000000 by omega) hgn (show 0 ≤ (c : Int) by omega) (show (c : Int) ≤ 1000000 by omega), low_max hs' ht' c]
      first | exact ⟨rfl, rfl⟩ | exact ⟨rfl, trivial⟩ | exact ⟨trivial, trivial⟩]
    rw [compGo_all (fun (c : Nat) => D.tup [.int (lowI (p :: r) (c : Int)), .int (lowI (q0 :: u) (c : Int))]) (fun (c : Nat) => D.int (max (lowI (p :: r) (c : Int)) (lowI (q0 :: u) (c : Int)))) (List.range m) fun c hc => by simp]
    rw [ne_same (fun (c : Nat) => max (lowI (p :: r) (c : Int)) (lowI (q0 :: u) (c : Int))) (List.range m)]
    simp only [Bool.false_eq_true, if_false]
    exact q _ _ _ _ _ _
end
end DL

namespace DL
open PySem PySem.Spec PyProof.Rows L2
def law_body : SS := (sSeq (sSet 3 (eCall φ__law_some_stair (eCons (eV 1) (eCons (eC (.int 9)) eNil))))
    (sSeq (sSet 4 (eCall φ__law_some_stair (eCons (eV 1) (eCons (eC (.int 9)) eNil))))
    (sSeq (sIf (eTst (eBin oEq (eCall φ__law_draw (eCons (eV 1) (eCons (eC (.int 2)) eNil))) (eC (.int 0)))) (sSeq (sSet 5 (eCall φ__law_draw (eCons (eV 1) (eCons (eBlt bLen (eCons (eVb 3) eNil)) eNil))))
    (sSet 4 (eCall φ__law_cut (eCons (eLst (eComp (iEn (eV 3)) (gTp 2 (gsCons (gN 6) (gsCons (gN 7) gsNil))) eYes (eIf (eTst (eBin oNe (eVb 6) (eVb 5))) (eV 7) (eTup (eCons (eBin oAdd (eBin oIx (eVb 7) (eC (.int 0))) (eCall φ__law_draw (eCons (eV 1) (eCons (eC (.int 2)) eNil)))) (eCons (eBlt bMax2 (eCons (eC (.int 0)) (eCons (eBin oSub (eBin oIx (eVb 7) (eC (.int 1))) (eCall φ__law_draw (eCons (eV 1) (eCons (eC (.int 2)) eNil)))) eNil))) eNil)))) [6, 7])) eNil)))) sNil)
    law_rest)))
theorem b_law_eq : b_law = (sSeq (sSet 1 (eCall φ__law_pen (eCons (eV 0) eNil)))
    (sSeq (sFor (iRg1 (eC (.int 14))) (gN 2) law_body)
    (sRet (eC (.bl true))))) := rfl
section
variable {S : Sto} {Q : D → Sto → Prop} {n : Int}
theorem lenStair {s : List P2} : Ev (bLen [dStair s] S) Q = Q (.int s.length) S := by
  rw [show dStair s = .tup (s.map dPair) from rfl, ev_lenTM]
theorem seqStair {s : List P2} {k : List D → Prop} : withSeq (dStair s) k = k (s.map dPair) := rfl
theorem enD_pairs (s : List P2) : enD (s.map dPair) = (s.mapIdx fun i p => ((i : Int), p)).map fun (x : Int × P2) => D.tup [.int x.1, dPair x.2] := by
  unfold enD
  refine List.ext_getElem? fun i => ?_
  rw [List.getElem?_mapIdx, List.getElem?_map, List.getElem?_map, List.getElem?_mapIdx, Option.map_map, Option.map_map]
  rfl
theorem eqI (i j : Int) (Q : D → Sto → Prop) : Ev (oEq (.int i) (.int j) S) Q = Q (.bl (decide (i = j))) S := eqE_int.oEq (by decide) i j S Q
theorem neI (i j : Int) (Q : D → Sto → Prop) : Ev (oNe (.int i) (.int j) S) Q = Q (.bl (!decide (i = j))) S := eqE_int.oNe (by decide) i j S Q
theorem body_k {A : D} {y2 y3 y4 y5 y6 y7 y8 y9 y10 y11 y12 y13 y14 y15 y16 y17 : Option Slot} {nx bk ct : Env → Sto → Prop} {rt : D → Sto → Prop} (h : PenOk n S) (hn : n < 900000)
    (q : ∀ y2 y3 y4 y5 y6 y7 y8 y9 y10 y11 y12 y13 y14 y15 y16 y17 S', PenOk (n + 300) S' → nx [some (.sh A), some (.sh (.mu 0)), y2, y3, y4, y5, y6, y7, y8, y9, y10, y11, y12, y13, y14, y15, y16, y17] S') :
    EvS (law_body [some (.sh A), some (.sh (.mu 0)), y2, y3, y4, y5, y6, y7, y8, y9, y10, y11, y12, y13, y14, y15, y16, y17] S) nx rt bk ct := by
  unfold law_body
  simp only [↓es_seq, ↓es_set, ↓ev_eCall, ↓ev_eCons, ↓ev_eV0, ↓ev_eVs, ↓ev_eC, ↓ev_eNil]
  refine someStair_k h (by omega) fun s S1 hs ns ls p1 => ?_
  simp only [↓ws_0, ↓ws_s, ↓ev_eCall, ↓ev_eCons, ↓ev_eV0, ↓ev_eVs, ↓ev_eC, ↓ev_eNil]
  refine someStair_k p1 (by omega) fun t S2 ht nt lt p2 => ?_
  simp only [↓ws_0, ↓ws_s, ↓es_if, ↓ev_eTst, ↓ev_eBin, ↓ev_eCall, ↓ev_eCons, ↓ev_eV0, ↓ev_eVs, ↓ev_eC, ↓ev_eNil]
  refine draw_k p2 (by omega) (by omega) (by omega) fun x S3 x0 x1 p3 => ?_
  simp only [↓eqI]
  by_cases hx : x = 0
  · simp only [decide_eq_true hx, if_true, ↓es_seq, ↓es_set, ↓ev_eCall, ↓ev_eCons, ↓ev_eV0, ↓ev_eVs, ↓ev_eBlt, ↓ev_eVbs, ↓ev_eVb0, ↓ev_eNil, ↓lenStair]
    have hpos := List.length_pos_iff.mpr ns
    refine draw_k p3 (by omega) (by omega) (by omega) fun a S4 a0 a1 p4 => ?_
    simp only [↓ws_0, ↓ws_s, ↓ev_eLst, ↓ev_eComp, ↓ev_iEn, ↓ev_eV0, ↓ev_eVs, ↓seqStair, ↓ww_0, ↓ww_s]
    rw [enD_pairs]
    refine Ev.imp (compGo_st (fun (x : Int × P2) => D.tup [.int x.1, dPair x.2]) (fun j S => PenOk (n + 26 + 2 * (j : Int)) S) (fun _ y => ∃ p : P2, y = dPair p ∧ 1 ≤ p.1 ∧ p.1 ≤ 13 ∧ 0 ≤ p.2 ∧ p.2 ≤ 13) (s.mapIdx fun i p => ((i : Int), p)) 0 S4 (fun w hw j S5 hj p5 => ?_) (p4.mono (by omega))) fun ys S5 ⟨p5, hl, hy⟩ => ?_
    · rw [List.length_mapIdx] at hj
      have hw2 : w.2 ∈ s := by
        obtain ⟨i, hi, e⟩ := List.mem_mapIdx.mp hw
        rw [← e]
        exact List.getElem_mem hi
      have hb := hs.at_ w.2 hw2
      simp only [↓wg_2, ↓wg_n, ↓ws_0, ↓ws_s, ↓ev_eIf, ↓ev_eTst, ↓ev_eBin, ↓ev_eVbs, ↓ev_eVb0, ↓neI]
      by_cases hwa : w.1 = a
      · simp only [decide_eq_true hwa, Bool.not_true, Bool.false_eq_true, if_false, ↓ev_eTup, ↓ev_eCons, ↓ev_eBin, ↓ev_eVbs, ↓ev_eVb0, ↓ev_eC, ↓ev_p0, ↓ev_p1, ↓ev_eCall, ↓ev_eV0, ↓ev_eVs, ↓ev_eNil]
        refine draw_k p5 (by omega) (by omega) (by omega) fun b S6 b0 b1 p6 => ?_
        simp only [↓ev_oAdd, ↓ev_eBlt, ↓ev_eCons, ↓ev_eC, ↓ev_eBin, ↓ev_eVbs, ↓ev_eVb0, ↓ev_p1, ↓ev_eCall, ↓ev_eV0, ↓ev_eVs, ↓ev_eNil]
        refine draw_k p6 (by omega) (by omega) (by omega) fun c S7 c0 c1 p7 => ?_
        simp only [↓ev_oSub, ↓ev_eNil, ↓ev_max2]
        exact ⟨by show 2 ≤ 1000; decide, p7.mono (by omega), (w.2.1 + b, max 0 (w.2.2 - c)), rfl, by show 1 ≤ w.2.1 + b; omega, by show w.2.1 + b ≤ 13; omega, by show 0 ≤ max 0 (w.2.2 - c); omega, by show max 0 (w.2.2 - c) ≤ 13; omega⟩
      · simp only [decide_eq_false hwa, Bool.not_false, if_true, ↓ev_eVs, ↓ev_eV0]
        exact ⟨p5.mono (by omega), w.2, rfl, by omega, by omega, by omega, by omega⟩
    · rw [List.length_mapIdx] at p5 hl
      obtain ⟨ps, e, hps⟩ := forall_dec (f := dPair) (P := fun p : P2 => 1 ≤ p.1 ∧ p.1 ≤ 13 ∧ 0 ≤ p.2 ∧ p.2 ≤ 13) fun y hyy => by
        obtain ⟨_, _, p, e, h⟩ := hy y hyy
        exact ⟨p, e, h⟩
      subst e
      rw [List.length_map] at hl
      simp only [↓ev_eNil, ↓lawCut_ev (show ps.length ≤ 1000 by omega), ↓ws_0, ↓ws_s]
      have hps0 : ps ≠ [] := fun z => by rw [z] at hl; simp at hl; omega
      have hcl := cut_len ps
      refine checks_k (hs.mono (by omega)) (cut_stair hps) ns (cut_nonempty hps0) (by omega) fun y8 y9 y10 y13 y14 y16 => ?_
      exact q _ _ _ _ _ _ _ _ _ _ _ _ _ _ _ _ _ (p5.mono (by omega))
  · simp only [decide_eq_false hx, Bool.false_eq_true, if_false, ↓es_nil]
    refine checks_k (hs.mono (by omega)) (ht.mono (by omega)) ns nt (by omega) fun y8 y9 y10 y13 y14 y16 => ?_
    exact q _ _ _ _ _ _ _ _ _ _ _ _ _ _ _ _ _ (p3.mono (by omega))
theorem math (ns : List Int) (hl : ns.length ≤ 63) : ∃ S', φ_law [.lst (ns.map .int)] [] = .ok (.bl true) S' := by
  have h : Ev (φ_law [.lst (ns.map .int)] []) fun d _ => d = .bl true := by
    rw [e_law, b_law_eq]
    simp only [↓es_seq, ↓es_set, ↓ev_eCall, ↓ev_eCons, ↓ev_eV0, ↓ev_eNil, ↓pen_ev hl, ↓ws_0, ↓ws_s, ↓es_for, ↓ev_iRg1, ↓ev_eC]
    refine ⟨by decide, ?_⟩
    refine forGo_inv (fun j env S' => PenOk (300 * (j : Int)) S' ∧ ∃ y2 y3 y4 y5 y6 y7 y8 y9 y10 y11 y12 y13 y14 y15 y16 y17, env = [some (.sh (.lst (ns.map .int))), some (.sh (.mu 0)), y2, y3, y4, y5, y6, y7, y8, y9, y10, y11, y12, y13, y14, y15, y16, y17]) (rangeD 0 (14 : Int).toNat) 0 ?_ _ _ ⟨⟨ns, 0, 0, rfl, by omega, by omega, by omega⟩, _, _, _, _, _, _, _, _, _, _, _, _, _, _, _, _, rfl⟩ ?_
    · rintro j d env S' hd ⟨hp, y2, y3, y4, y5, y6, y7, y8, y9, y10, y11, y12, y13, y14, y15, y16, y17, rfl⟩
      have hj : j < 14 := by
        have := (List.getElem?_eq_some_iff.mp hd).1
        rw [rangeD_len] at this
        exact this
      simp only [↓wg_n, ↓ws_0, ↓ws_s]
      refine body_k hp (by omega) fun z2 z3 z4 z5 z6 z7 z8 z9 z10 z11 z12 z13 z14 z15 z16 z17 S2 p2 => ?_
      exact ⟨p2.mono (by omega), _, _, _, _, _, _, _, _, _, _, _, _, _, _, _, _, rfl⟩
    · rintro env S' ⟨_, y2, y3, y4, y5, y6, y7, y8, y9, y10, y11, y12, y13, y14, y15, y16, y17, rfl⟩
      simp
  obtain ⟨d, S', e, rfl⟩ := h
  exact ⟨S', e⟩
end
end DL

namespace DL
open PySem PySem.Spec PyProof.Rows L2
theorem all_mk {l : PySem.W.OpenLaw} {w : World} {K : PySem.W.Frag} {h : Heap} {mg : Str → Option Value} {fa : Addr} (X : K.In h) (G : h.Ns mainGlobals mg) (hfa : mg "law" = some (.ref fa))
    {f0 : Addr} {od0 an0 : Option Addr} {sl0 : Array (Option Value)} {oc0 kV0 dc0 pm0 cd0 ct0 : Value}
    (a0 : PySem.W.nsIn K mainGlobals "is_integer" = some (some (.ref f0))) (l0 : K.lookup f0 = some ⟨oc0, od0, .func (PySem.W.fnOf "is_integer" "is_integer" (defArgs st_is_integer) (defBody st_is_integer) (defScope st_is_integer) .none kV0 dc0 pm0 an0 cd0 ct0), sl0⟩) (c0 : PySem.W.codeIn K cd0 "is_integer" = true) (k0 : PySem.W.keepIn K (.ref f0) = true)
    {f1 : Addr} {od1 an1 : Option Addr} {sl1 : Array (Option Value)} {oc1 kV1 dc1 pm1 cd1 ct1 : Value}
    (a1 : PySem.W.nsIn K mainGlobals "is_between" = some (some (.ref f1))) (l1 : K.lookup f1 = some ⟨oc1, od1, .func (PySem.W.fnOf "is_between" "is_between" (defArgs st_is_between) (defBody st_is_between) (defScope st_is_between) .none kV1 dc1 pm1 an1 cd1 ct1), sl1⟩) (c1 : PySem.W.codeIn K cd1 "is_between" = true) (k1 : PySem.W.keepIn K (.ref f1) = true)
    {f2 : Addr} {od2 an2 : Option Addr} {sl2 : Array (Option Value)} {oc2 kV2 dc2 pm2 cd2 ct2 : Value}
    (a2 : PySem.W.nsIn K mainGlobals "is_listed" = some (some (.ref f2))) (l2 : K.lookup f2 = some ⟨oc2, od2, .func (PySem.W.fnOf "is_listed" "is_listed" (defArgs st_is_listed) (defBody st_is_listed) (defScope st_is_listed) .none kV2 dc2 pm2 an2 cd2 ct2), sl2⟩) (c2 : PySem.W.codeIn K cd2 "is_listed" = true) (k2 : PySem.W.keepIn K (.ref f2) = true)
    {f3 : Addr} {od3 an3 : Option Addr} {sl3 : Array (Option Value)} {oc3 kV3 dc3 pm3 cd3 ct3 : Value}
    (a3 : PySem.W.nsIn K mainGlobals "cut_of" = some (some (.ref f3))) (l3 : K.lookup f3 = some ⟨oc3, od3, .func (PySem.W.fnOf "cut_of" "cut_of" (defArgs st_cut_of) (defBody st_cut_of) (defScope st_cut_of) .none kV3 dc3 pm3 an3 cd3 ct3), sl3⟩) (c3 : PySem.W.codeIn K cd3 "cut_of" = true) (k3 : PySem.W.keepIn K (.ref f3) = true)
    {f4 : Addr} {od4 an4 : Option Addr} {sl4 : Array (Option Value)} {oc4 kV4 dc4 pm4 cd4 ct4 : Value}
    (a4 : PySem.W.nsIn K mainGlobals "number_in" = some (some (.ref f4))) (l4 : K.lookup f4 = some ⟨oc4, od4, .func (PySem.W.fnOf "number_in" "number_in" (defArgs st_number_in) (defBody st_number_in) (defScope st_number_in) .none kV4 dc4 pm4 an4 cd4 ct4), sl4⟩) (c4 : PySem.W.codeIn K cd4 "number_in" = true) (k4 : PySem.W.keepIn K (.ref f4) = true)
    {f5 : Addr} {od5 an5 : Option Addr} {sl5 : Array (Option Value)} {oc5 kV5 dc5 pm5 cd5 ct5 : Value}
    (a5 : PySem.W.nsIn K mainGlobals "least_in" = some (some (.ref f5))) (l5 : K.lookup f5 = some ⟨oc5, od5, .func (PySem.W.fnOf "least_in" "least_in" (defArgs st_least_in) (defBody st_least_in) (defScope st_least_in) .none kV5 dc5 pm5 an5 cd5 ct5), sl5⟩) (c5 : PySem.W.codeIn K cd5 "least_in" = true) (k5 : PySem.W.keepIn K (.ref f5) = true)
    {f6 : Addr} {od6 an6 : Option Addr} {sl6 : Array (Option Value)} {oc6 kV6 dc6 pm6 cd6 ct6 : Value}
    (a6 : PySem.W.nsIn K mainGlobals "quiet_in" = some (some (.ref f6))) (l6 : K.lookup f6 = some ⟨oc6, od6, .func (PySem.W.fnOf "quiet_in" "quiet_in" (defArgs st_quiet_in) (defBody st_quiet_in) (defScope st_quiet_in) .none kV6 dc6 pm6 an6 cd6 ct6), sl6⟩) (c6 : PySem.W.codeIn K cd6 "quiet_in" = true) (k6 : PySem.W.keepIn K (.ref f6) = true)
    {f7 : Addr} {od7 an7 : Option Addr} {sl7 : Array (Option Value)} {oc7 kV7 dc7 pm7 cd7 ct7 : Value}
    (a7 : PySem.W.nsIn K mainGlobals "least_among" = some (some (.ref f7))) (l7 : K.lookup f7 = some ⟨oc7, od7, .func (PySem.W.fnOf "least_among" "least_among" (defArgs st_least_among) (defBody st_least_among) (defScope st_least_among) .none kV7 dc7 pm7 an7 cd7 ct7), sl7⟩) (c7 : PySem.W.codeIn K cd7 "least_among" = true) (k7 : PySem.W.keepIn K (.ref f7) = true)
    {f8 : Addr} {od8 an8 : Option Addr} {sl8 : Array (Option Value)} {oc8 kV8 dc8 pm8 cd8 ct8 : Value}
    (a8 : PySem.W.nsIn K mainGlobals "greatest_among" = some (some (.ref f8))) (l8 : K.lookup f8 = some ⟨oc8, od8, .func (PySem.W.fnOf "greatest_among" "greatest_among" (defArgs st_greatest_among) (defBody st_greatest_among) (defScope st_greatest_among) .none kV8 dc8 pm8 an8 cd8 ct8), sl8⟩) (c8 : PySem.W.codeIn K cd8 "greatest_among" = true) (k8 : PySem.W.keepIn K (.ref f8) = true)
    {f9 : Addr} {od9 an9 : Option Addr} {sl9 : Array (Option Value)} {oc9 kV9 dc9 pm9 cd9 ct9 : Value}
    (a9 : PySem.W.nsIn K mainGlobals "is_pair_of" = some (some (.ref f9))) (l9 : K.lookup f9 = some ⟨oc9, od9, .func (PySem.W.fnOf "is_pair_of" "is_pair_of" (defArgs st_is_pair_of) (defBody st_is_pair_of) (defScope st_is_pair_of) .none kV9 dc9 pm9 an9 cd9 ct9), sl9⟩) (c9 : PySem.W.codeIn K cd9 "is_pair_of" = true) (k9 : PySem.W.keepIn K (.ref f9) = true)
    {f10 : Addr} {od10 an10 : Option Addr} {sl10 : Array (Option Value)} {oc10 kV10 dc10 pm10 cd10 ct10 : Value}
    (a10 : PySem.W.nsIn K mainGlobals "fixed_stair" = some (some (.ref f10))) (l10 : K.lookup f10 = some ⟨oc10, od10, .func (PySem.W.fnOf "fixed_stair" "fixed_stair" (defArgs st_fixed_stair) (defBody st_fixed_stair) (defScope st_fixed_stair) .none kV10 dc10 pm10 an10 cd10 ct10), sl10⟩) (c10 : PySem.W.codeIn K cd10 "fixed_stair" = true) (k10 : PySem.W.keepIn K (.ref f10) = true)
    {f11 : Addr} {od11 an11 : Option Addr} {sl11 : Array (Option Value)} {oc11 kV11 dc11 pm11 cd11 ct11 : Value}
    (a11 : PySem.W.nsIn K mainGlobals "is_stair" = some (some (.ref f11))) (l11 : K.lookup f11 = some ⟨oc11, od11, .func (PySem.W.fnOf "is_stair" "is_stair" (defArgs st_is_stair) (defBody st_is_stair) (defScope st_is_stair) .none kV11 dc11 pm11 an11 cd11 ct11), sl11⟩) (c11 : PySem.W.codeIn K cd11 "is_stair" = true) (k11 : PySem.W.keepIn K (.ref f11) = true)
    {f12 : Addr} {od12 an12 : Option Addr} {sl12 : Array (Option Value)} {oc12 kV12 dc12 pm12 cd12 ct12 : Value}
    (a12 : PySem.W.nsIn K mainGlobals "need_stair" = some (some (.ref f12))) (l12 : K.lookup f12 = some ⟨oc12, od12, .func (PySem.W.fnOf "need_stair" "need_stair" (defArgs st_need_stair) (defBody st_need_stair) (defScope st_need_stair) .none kV12 dc12 pm12 an12 cd12 ct12), sl12⟩) (c12 : PySem.W.codeIn K cd12 "need_stair" = true) (k12 : PySem.W.keepIn K (.ref f12) = true)
    {f13 : Addr} {od13 an13 : Option Addr} {sl13 : Array (Option Value)} {oc13 kV13 dc13 pm13 cd13 ct13 : Value}
    (a13 : PySem.W.nsIn K mainGlobals "need_stairs" = some (some (.ref f13))) (l13 : K.lookup f13 = some ⟨oc13, od13, .func (PySem.W.fnOf "need_stairs" "need_stairs" (defArgs st_need_stairs) (defBody st_need_stairs) (defScope st_need_stairs) .none kV13 dc13 pm13 an13 cd13 ct13), sl13⟩) (c13 : PySem.W.codeIn K cd13 "need_stairs" = true) (k13 : PySem.W.keepIn K (.ref f13) = true)
    {f14 : Addr} {od14 an14 : Option Addr} {sl14 : Array (Option Value)} {oc14 kV14 dc14 pm14 cd14 ct14 : Value}
    (a14 : PySem.W.nsIn K mainGlobals "need_count" = some (some (.ref f14))) (l14 : K.lookup f14 = some ⟨oc14, od14, .func (PySem.W.fnOf "need_count" "need_count" (defArgs st_need_count) (defBody st_need_count) (defScope st_need_count) .none kV14 dc14 pm14 an14 cd14 ct14), sl14⟩) (c14 : PySem.W.codeIn K cd14 "need_count" = true) (k14 : PySem.W.keepIn K (.ref f14) = true)
    {f15 : Addr} {od15 an15 : Option Addr} {sl15 : Array (Option Value)} {oc15 kV15 dc15 pm15 cd15 ct15 : Value}
    (a15 : PySem.W.nsIn K mainGlobals "need_limit" = some (some (.ref f15))) (l15 : K.lookup f15 = some ⟨oc15, od15, .func (PySem.W.fnOf "need_limit" "need_limit" (defArgs st_need_limit) (defBody st_need_limit) (defScope st_need_limit) .none kV15 dc15 pm15 an15 cd15 ct15), sl15⟩) (c15 : PySem.W.codeIn K cd15 "need_limit" = true) (k15 : PySem.W.keepIn K (.ref f15) = true)
    {f16 : Addr} {od16 an16 : Option Addr} {sl16 : Array (Option Value)} {oc16 kV16 dc16 pm16 cd16 ct16 : Value}
    (a16 : PySem.W.nsIn K mainGlobals "number_at" = some (some (.ref f16))) (l16 : K.lookup f16 = some ⟨oc16, od16, .func (PySem.W.fnOf "number_at" "number_at" (defArgs st_number_at) (defBody st_number_at) (defScope st_number_at) .none kV16 dc16 pm16 an16 cd16 ct16), sl16⟩) (c16 : PySem.W.codeIn K cd16 "number_at" = true) (k16 : PySem.W.keepIn K (.ref f16) = true)
    {f17 : Addr} {od17 an17 : Option Addr} {sl17 : Array (Option Value)} {oc17 kV17 dc17 pm17 cd17 ct17 : Value}
    (a17 : PySem.W.nsIn K mainGlobals "least_limit" = some (some (.ref f17))) (l17 : K.lookup f17 = some ⟨oc17, od17, .func (PySem.W.fnOf "least_limit" "least_limit" (defArgs st_least_limit) (defBody st_least_limit) (defScope st_least_limit) .none kV17 dc17 pm17 an17 cd17 ct17), sl17⟩) (c17 : PySem.W.codeIn K cd17 "least_limit" = true) (k17 : PySem.W.keepIn K (.ref f17) = true)
    {f18 : Addr} {od18 an18 : Option Addr} {sl18 : Array (Option Value)} {oc18 kV18 dc18 pm18 cd18 ct18 : Value}
    (a18 : PySem.W.nsIn K mainGlobals "quiet_of" = some (some (.ref f18))) (l18 : K.lookup f18 = some ⟨oc18, od18, .func (PySem.W.fnOf "quiet_of" "quiet_of" (defArgs st_quiet_of) (defBody st_quiet_of) (defScope st_quiet_of) .none kV18 dc18 pm18 an18 cd18 ct18), sl18⟩) (c18 : PySem.W.codeIn K cd18 "quiet_of" = true) (k18 : PySem.W.keepIn K (.ref f18) = true)
    {f19 : Addr} {od19 an19 : Option Addr} {sl19 : Array (Option Value)} {oc19 kV19 dc19 pm19 cd19 ct19 : Value}
    (a19 : PySem.W.nsIn K mainGlobals "least_of" = some (some (.ref f19))) (l19 : K.lookup f19 = some ⟨oc19, od19, .func (PySem.W.fnOf "least_of" "least_of" (defArgs st_least_of) (defBody st_least_of) (defScope st_least_of) .none kV19 dc19 pm19 an19 cd19 ct19), sl19⟩) (c19 : PySem.W.codeIn K cd19 "least_of" = true) (k19 : PySem.W.keepIn K (.ref f19) = true)
    {f20 : Addr} {od20 an20 : Option Addr} {sl20 : Array (Option Value)} {oc20 kV20 dc20 pm20 cd20 ct20 : Value}
    (a20 : PySem.W.nsIn K mainGlobals "greatest_of" = some (some (.ref f20))) (l20 : K.lookup f20 = some ⟨oc20, od20, .func (PySem.W.fnOf "greatest_of" "greatest_of" (defArgs st_greatest_of) (defBody st_greatest_of) (defScope st_greatest_of) .none kV20 dc20 pm20 an20 cd20 ct20), sl20⟩) (c20 : PySem.W.codeIn K cd20 "greatest_of" = true) (k20 : PySem.W.keepIn K (.ref f20) = true)
    {f21 : Addr} {od21 an21 : Option Addr} {sl21 : Array (Option Value)} {oc21 kV21 dc21 pm21 cd21 ct21 : Value}
    (a21 : PySem.W.nsIn K mainGlobals "_law_pen" = some (some (.ref f21))) (l21 : K.lookup f21 = some ⟨oc21, od21, .func (PySem.W.fnOf "_law_pen" "_law_pen" (defArgs st__law_pen) (defBody st__law_pen) (defScope st__law_pen) .none kV21 dc21 pm21 an21 cd21 ct21), sl21⟩) (c21 : PySem.W.codeIn K cd21 "_law_pen" = true) (k21 : PySem.W.keepIn K (.ref f21) = true)
    {f22 : Addr} {od22 an22 : Option Addr} {sl22 : Array (Option Value)} {oc22 kV22 dc22 pm22 cd22 ct22 : Value}
    (a22 : PySem.W.nsIn K mainGlobals "_law_draw" = some (some (.ref f22))) (l22 : K.lookup f22 = some ⟨oc22, od22, .func (PySem.W.fnOf "_law_draw" "_law_draw" (defArgs st__law_draw) (defBody st__law_draw) (defScope st__law_draw) .none kV22 dc22 pm22 an22 cd22 ct22), sl22⟩) (c22 : PySem.W.codeIn K cd22 "_law_draw" = true) (k22 : PySem.W.keepIn K (.ref f22) = true)
    {f23 : Addr} {od23 an23 : Option Addr} {sl23 : Array (Option Value)} {oc23 kV23 dc23 pm23 cd23 ct23 : Value}
    (a23 : PySem.W.nsIn K mainGlobals "_law_pick" = some (some (.ref f23))) (l23 : K.lookup f23 = some ⟨oc23, od23, .func (PySem.W.fnOf "_law_pick" "_law_pick" (defArgs st__law_pick) (defBody st__law_pick) (defScope st__law_pick) .none kV23 dc23 pm23 an23 cd23 ct23), sl23⟩) (c23 : PySem.W.codeIn K cd23 "_law_pick" = true) (k23 : PySem.W.keepIn K (.ref f23) = true)
    {f24 : Addr} {od24 an24 : Option Addr} {sl24 : Array (Option Value)} {oc24 kV24 dc24 pm24 cd24 ct24 : Value}
    (a24 : PySem.W.nsIn K mainGlobals "_law_cut" = some (some (.ref f24))) (l24 : K.lookup f24 = some ⟨oc24, od24, .func (PySem.W.fnOf "_law_cut" "_law_cut" (defArgs st__law_cut) (defBody st__law_cut) (defScope st__law_cut) .none kV24 dc24 pm24 an24 cd24 ct24), sl24⟩) (c24 : PySem.W.codeIn K cd24 "_law_cut" = true) (k24 : PySem.W.keepIn K (.ref f24) = true)
    {f25 : Addr} {od25 an25 : Option Addr} {sl25 : Array (Option Value)} {oc25 kV25 dc25 pm25 cd25 ct25 : Value}
    (a25 : PySem.W.nsIn K mainGlobals "_law_by_limits" = some (some (.ref f25))) (l25 : K.lookup f25 = some ⟨oc25, od25, .func (PySem.W.fnOf "_law_by_limits" "_law_by_limits" (defArgs st__law_by_limits) (defBody st__law_by_limits) (defScope st__law_by_limits) .none kV25 dc25 pm25 an25 cd25 ct25), sl25⟩) (c25 : PySem.W.codeIn K cd25 "_law_by_limits" = true) (k25 : PySem.W.keepIn K (.ref f25) = true)
    {f26 : Addr} {od26 an26 : Option Addr} {sl26 : Array (Option Value)} {oc26 kV26 dc26 pm26 cd26 ct26 : Value}
    (a26 : PySem.W.nsIn K mainGlobals "_law_of_limits" = some (some (.ref f26))) (l26 : K.lookup f26 = some ⟨oc26, od26, .func (PySem.W.fnOf "_law_of_limits" "_law_of_limits" (defArgs st__law_of_limits) (defBody st__law_of_limits) (defScope st__law_of_limits) .none kV26 dc26 pm26 an26 cd26 ct26), sl26⟩) (c26 : PySem.W.codeIn K cd26 "_law_of_limits" = true) (k26 : PySem.W.keepIn K (.ref f26) = true)
    {f27 : Addr} {od27 an27 : Option Addr} {sl27 : Array (Option Value)} {oc27 kV27 dc27 pm27 cd27 ct27 : Value}
    (a27 : PySem.W.nsIn K mainGlobals "_law_pairs" = some (some (.ref f27))) (l27 : K.lookup f27 = some ⟨oc27, od27, .func (PySem.W.fnOf "_law_pairs" "_law_pairs" (defArgs st__law_pairs) (defBody st__law_pairs) (defScope st__law_pairs) .none kV27 dc27 pm27 an27 cd27 ct27), sl27⟩) (c27 : PySem.W.codeIn K cd27 "_law_pairs" = true) (k27 : PySem.W.keepIn K (.ref f27) = true)
    {f28 : Addr} {od28 an28 : Option Addr} {sl28 : Array (Option Value)} {oc28 kV28 dc28 pm28 cd28 ct28 : Value}
    (a28 : PySem.W.nsIn K mainGlobals "_law_most" = some (some (.ref f28))) (l28 : K.lookup f28 = some ⟨oc28, od28, .func (PySem.W.fnOf "_law_most" "_law_most" (defArgs st__law_most) (defBody st__law_most) (defScope st__law_most) .none kV28 dc28 pm28 an28 cd28 ct28), sl28⟩) (c28 : PySem.W.codeIn K cd28 "_law_most" = true) (k28 : PySem.W.keepIn K (.ref f28) = true)
    {f29 : Addr} {od29 an29 : Option Addr} {sl29 : Array (Option Value)} {oc29 kV29 dc29 pm29 cd29 ct29 : Value}
    (a29 : PySem.W.nsIn K mainGlobals "_law_stair" = some (some (.ref f29))) (l29 : K.lookup f29 = some ⟨oc29, od29, .func (PySem.W.fnOf "_law_stair" "_law_stair" (defArgs st__law_stair) (defBody st__law_stair) (defScope st__law_stair) .none kV29 dc29 pm29 an29 cd29 ct29), sl29⟩) (c29 : PySem.W.codeIn K cd29 "_law_stair" = true) (k29 : PySem.W.keepIn K (.ref f29) = true)
    {f30 : Addr} {od30 an30 : Option Addr} {sl30 : Array (Option Value)} {oc30 kV30 dc30 pm30 cd30 ct30 : Value}
    (a30 : PySem.W.nsIn K mainGlobals "_law_some_stair" = some (some (.ref f30))) (l30 : K.lookup f30 = some ⟨oc30, od30, .func (PySem.W.fnOf "_law_some_stair" "_law_some_stair" (defArgs st__law_some_stair) (defBody st__law_some_stair) (defScope st__law_some_stair) .none kV30 dc30 pm30 an30 cd30 ct30), sl30⟩) (c30 : PySem.W.codeIn K cd30 "_law_some_stair" = true) (k30 : PySem.W.keepIn K (.ref f30) = true)
    {f31 : Addr} {od31 an31 : Option Addr} {sl31 : Array (Option Value)} {oc31 kV31 dc31 pm31 cd31 ct31 : Value}
    (a31 : PySem.W.nsIn K mainGlobals "law" = some (some (.ref f31))) (l31 : K.lookup f31 = some ⟨oc31, od31, .func (PySem.W.fnOf "law" "law" (defArgs st_law) (defBody st_law) (defScope st_law) .none kV31 dc31 pm31 an31 cd31 ct31), sl31⟩) (c31 : PySem.W.codeIn K cd31 "law" = true) (k31 : PySem.W.keepIn K (.ref f31) = true)
    (z_isinstance : PySem.W.nsIn K mainGlobals "isinstance" = some none)
    (z_int : PySem.W.nsIn K mainGlobals "int" = some none)
    (z_bool : PySem.W.nsIn K mainGlobals "bool" = some none)
    (z_list : PySem.W.nsIn K mainGlobals "list" = some none)
    (z_tuple : PySem.W.nsIn K mainGlobals "tuple" = some none)
    (z_max : PySem.W.nsIn K mainGlobals "max" = some none)
    (z_sorted : PySem.W.nsIn K mainGlobals "sorted" = some none)
    (z_min : PySem.W.nsIn K mainGlobals "min" = some none)
    (z_any : PySem.W.nsIn K mainGlobals "any" = some none)
    (z_len : PySem.W.nsIn K mainGlobals "len" = some none)
    (z_all : PySem.W.nsIn K mainGlobals "all" = some none)
    (z_zip : PySem.W.nsIn K mainGlobals "zip" = some none)
    (z_abs : PySem.W.nsIn K mainGlobals "abs" = some none)
    (z_range : PySem.W.nsIn K mainGlobals "range" = some none)
    (z_enumerate : PySem.W.nsIn K mainGlobals "enumerate" = some none)
    {t_MOST_LIMIT : Tok} (q_MOST_LIMIT : PySem.W.nsIn K mainGlobals "MOST_LIMIT" = some (some (.int 1000000 t_MOST_LIMIT)))
    : ∃ fd : FuncData, (∀ (s : Shared) (v : Value), BindsTo s fd ⟨[v], []⟩ [("script", v)]) ∧ ∀ base : Heap, K.In base → base.Ns mainGlobals mg → FnOk l.prog w K mg base CX0 7 fa fd ["script"] (spD K 1 φ_law) := by
  have e := hfa.symm.trans (PySem.W.mg_of X G a31)
  cases e
  have F0 := fun_mk (st := st_is_integer) l0 c0 k0
  have F1 := fun_mk (st := st_is_between) l1 c1 k1
  have F2 := fun_mk (st := st_is_listed) l2 c2 k2
  have F3 := fun_mk (st := st_cut_of) l3 c3 k3
  have F4 := fun_mk (st := st_number_in) l4 c4 k4
  have F5 := fun_mk (st := st_least_in) l5 c5 k5
  have F6 := fun_mk (st := st_quiet_in) l6 c6 k6
  have F7 := fun_mk (st := st_least_among) l7 c7 k7
  have F8 := fun_mk (st := st_greatest_among) l8 c8 k8
  have F9 := fun_mk (st := st_is_pair_of) l9 c9 k9
  have F10 := fun_mk (st := st_fixed_stair) l10 c10 k10
  have F11 := fun_mk (st := st_is_stair) l11 c11 k11
  have F12 := fun_mk (st := st_need_stair) l12 c12 k12
  have F13 := fun_mk (st := st_need_stairs) l13 c13 k13
  have F14 := fun_mk (st := st_need_count) l14 c14 k14
  have F15 := fun_mk (st := st_need_limit) l15 c15 k15
  have F16 := fun_mk (st := st_number_at) l16 c16 k16
  have F17 := fun_mk (st := st_least_limit) l17 c17 k17
  have F18 := fun_mk (st := st_quiet_of) l18 c18 k18
  have F19 := fun_mk (st := st_least_of) l19 c19 k19
  have F20 := fun_mk (st := st_greatest_of) l20 c20 k20
  have F21 := fun_mk (st := st__law_pen) l21 c21 k21
  have F22 := fun_mk (st := st__law_draw) l22 c22 k22
  have F23 := fun_mk (st := st__law_pick) l23 c23 k23
  have F24 := fun_mk (st := st__law_cut) l24 c24 k24
  have F25 := fun_mk (st := st__law_by_limits) l25 c25 k25
  have F26 := fun_mk (st := st__law_of_limits) l26 c26 k26
  have F27 := fun_mk (st := st__law_pairs) l27 c27 k27
  have F28 := fun_mk (st := st__law_most) l28 c28 k28
  have F29 := fun_mk (st := st__law_stair) l29 c29 k29
  have F30 := fun_mk (st := st__law_some_stair) l30 c30 k30
  have F31 := fun_mk (st := st_law) l31 c31 k31
  have b0 := F0.binds (ps := ["value"]) fun _ _ _ _ _ _ us hl => match us, hl with | [_], _ => rfl
  have b1 := F1.binds (ps := ["value", "least", "most"]) fun _ _ _ _ _ _ us hl => match us, hl with | [_, _, _], _ => rfl
  have b2 := F2.binds (ps := ["value"]) fun _ _ _ _ _ _ us hl => match us, hl with | [_], _ => rfl
  have b3 := F3.binds (ps := ["pairs"]) fun _ _ _ _ _ _ us hl => match us, hl with | [_], _ => rfl
  have b4 := F4.binds (ps := ["stair", "limit"]) fun _ _ _ _ _ _ us hl => match us, hl with | [_, _], _ => rfl
  have b5 := F5.binds (ps := ["stair", "count"]) fun _ _ _ _ _ _ us hl => match us, hl with | [_, _], _ => rfl
  have b6 := F6.binds (ps := ["stair"]) fun _ _ _ _ _ _ us hl => match us, hl with | [_], _ => rfl
  have b7 := F7.binds (ps := ["stairs"]) fun _ _ _ _ _ _ us hl => match us, hl with | [_], _ => rfl
  have b8 := F8.binds (ps := ["stairs"]) fun _ _ _ _ _ _ us hl => match us, hl with | [_], _ => rfl
  have b9 := F9.binds (ps := ["value", "least", "most"]) fun _ _ _ _ _ _ us hl => match us, hl with | [_, _, _], _ => rfl
  have b10 := F10.binds (ps := ["stair"]) fun _ _ _ _ _ _ us hl => match us, hl with | [_], _ => rfl
  have b11 := F11.binds (ps := ["value"]) fun _ _ _ _ _ _ us hl => match us, hl with | [_], _ => rfl
  have b12 := F12.binds (ps := ["stair"]) fun _ _ _ _ _ _ us hl => match us, hl with | [_], _ => rfl
  have b13 := F13.binds (ps := ["stairs"]) fun _ _ _ _ _ _ us hl => match us, hl with | [_], _ => rfl
  have b14 := F14.binds (ps := ["count", "most"]) fun _ _ _ _ _ _ us hl => match us, hl with | [_, _], _ => rfl
  have b15 := F15.binds (ps := ["limit"]) fun _ _ _ _ _ _ us hl => match us, hl with | [_], _ => rfl
  have b16 := F16.binds (ps := ["stair", "limit"]) fun _ _ _ _ _ _ us hl => match us, hl with | [_, _], _ => rfl
  have b17 := F17.binds (ps := ["stair", "count"]) fun _ _ _ _ _ _ us hl => match us, hl with | [_, _], _ => rfl
  have b18 := F18.binds (ps := ["stair"]) fun _ _ _ _ _ _ us hl => match us, hl with | [_], _ => rfl
  have b19 := F19.binds (ps := ["stairs"]) fun _ _ _ _ _ _ us hl => match us, hl with | [_], _ => rfl
  have b20 := F20.binds (ps := ["stairs"]) fun _ _ _ _ _ _ us hl => match us, hl with | [_], _ => rfl
  have b21 := F21.binds (ps := ["script"]) fun _ _ _ _ _ _ us hl => match us, hl with | [_], _ => rfl
  have b22 := F22.binds (ps := ["pen", "many"]) fun _ _ _ _ _ _ us hl => match us, hl with | [_, _], _ => rfl
  have b23 := F23.binds (ps := ["pen", "some"]) fun _ _ _ _ _ _ us hl => match us, hl with | [_, _], _ => rfl
  have b24 := F24.binds (ps := ["corners"]) fun _ _ _ _ _ _ us hl => match us, hl with | [_], _ => rfl
  have b25 := F25.binds (ps := ["pairs", "most"]) fun _ _ _ _ _ _ us hl => match us, hl with | [_, _], _ => rfl
  have b26 := F26.binds (ps := ["row"]) fun _ _ _ _ _ _ us hl => match us, hl with | [_], _ => rfl
  have b27 := F27.binds (ps := ["pen", "most"]) fun _ _ _ _ _ _ us hl => match us, hl with | [_, _], _ => rfl
  have b28 := F28.binds (ps := ["stairs"]) fun _ _ _ _ _ _ us hl => match us, hl with | [_], _ => rfl
  have b29 := F29.binds (ps := ["pen", "most"]) fun _ _ _ _ _ _ us hl => match us, hl with | [_, _], _ => rfl
  have b30 := F30.binds (ps := ["pen", "most"]) fun _ _ _ _ _ _ us hl => match us, hl with | [_, _], _ => rfl
  have b31 := F31.binds (ps := ["script"]) fun _ _ _ _ _ _ us hl => match us, hl with | [_], _ => rfl
  have GGv : ∃ g : GG K mg, g.f_law = fa ∧ g.fd_law = PySem.W.fnOf "law" "law" (defArgs st_law) (defBody st_law) (defScope st_law) .none kV31 dc31 pm31 an31 cd31 ct31 := ⟨{ f_is_integer := _, fd_is_integer := _, F_is_integer := F0, b_is_integer := b0, g_is_integer := PySem.W.mg_of X G a0, f_is_between := _, fd_is_between := _, F_is_between := F1, b_is_between := b1, g_is_between := PySem.W.mg_of X G a1, f_is_listed := _, fd_is_listed := _, F_is_listed := F2, b_is_listed := b2, g_is_listed := PySem.W.mg_of X G a2, f_cut_of := _, fd_cut_of := _, F_cut_of := F3, b_cut_of := b3, g_cut_of := PySem.W.mg_of X G a3, f_number_in := _, fd_number_in := _, F_number_in := F4, b_number_in := b4, g_number_in := PySem.W.mg_of X G a4, f_least_in := _, fd_least_in := _, F_least_in := F5, b_least_in := b5, g_least_in := PySem.W.mg_of X G a5, f_quiet_in := _, fd_quiet_in := _, F_quiet_in := F6, b_quiet_in := b6, g_quiet_in := PySem.W.mg_of X G a6, f_least_among := _, fd_least_among := _, F_least_among := F7, b_least_among := b7, g_least_among := PySem.W.mg_of X G a7, f_greatest_among := _, fd_greatest_among := _, F_greatest_among := F8, b_greatest_among := b8, g_greatest_among := PySem.W.mg_of X G a8, f_is_pair_of := _, fd_is_pair_of := _, F_is_pair_of := F9, b_is_pair_of := b9, g_is_pair_of := PySem.W.mg_of X G a9, f_fixed_stair := _, fd_fixed_stair := _, F_fixed_stair := F10, b_fixed_stair := b10, g_fixed_stair := PySem.W.mg_of X G a10, f_is_stair := _, fd_is_stair := _, F_is_stair := F11, b_is_stair := b11, g_is_stair := PySem.W.mg_of X G a11, f_need_stair := _, fd_need_stair := _, F_need_stair := F12, b_need_stair := b12, g_need_stair := PySem.W.mg_of X G a12, f_need_stairs := _, fd_need_stairs := _, F_need_stairs := F13, b_need_stairs := b13, g_need_stairs := PySem.W.mg_of X G a13, f_need_count := _, fd_need_count := _, F_need_count := F14, b_need_count := b14, g_need_count := PySem.W.mg_of X G a14, f_need_limit := _, fd_need_limit := _, F_need_limit := F15, b_need_limit := b15, g_need_limit := PySem.W.mg_of X G a15, f_number_at := _, fd_number_at := _, F_number_at := F16, b_number_at := b16, g_number_at := PySem.W.mg_of X G a16, f_least_limit := _, fd_least_limit := _, F_least_limit := F17, b_least_limit := b17, g_least_limit := PySem.W.mg_of X G a17, f_quiet_of := _, fd_quiet_of := _, F_quiet_of := F18, b_quiet_of := b18, g_quiet_of := PySem.W.mg_of X G a18, f_least_of := _, fd_least_of := _, F_least_of := F19, b_least_of := b19, g_least_of := PySem.W.mg_of X G a19, f_greatest_of := _, fd_greatest_of := _, F_greatest_of := F20, b_greatest_of := b20, g_greatest_of := PySem.W.mg_of X G a20, f__law_pen := _, fd__law_pen := _, F__law_pen := F21, b__law_pen := b21, g__law_pen := PySem.W.mg_of X G a21, f__law_draw := _, fd__law_draw := _, F__law_draw := F22, b__law_draw := b22, g__law_draw := PySem.W.mg_of X G a22, f__law_pick := _, fd__law_pick := _, F__law_pick := F23, b__law_pick := b23, g__law_pick := PySem.W.mg_of X G a23, f__law_cut := _, fd__law_cut := _, F__law_cut := F24, b__law_cut := b24, g__law_cut := PySem.W.mg_of X G a24, f__law_by_limits := _, fd__law_by_limits := _, F__law_by_limits := F25, b__law_by_limits := b25, g__law_by_limits := PySem.W.mg_of X G a25, f__law_of_limits := _, fd__law_of_limits := _, F__law_of_limits := F26, b__law_of_limits := b26, g__law_of_limits := PySem.W.mg_of X G a26, f__law_pairs := _, fd__law_pairs := _, F__law_pairs := F27, b__law_pairs := b27, g__law_pairs := PySem.W.mg_of X G a27, f__law_most := _, fd__law_most := _, F__law_most := F28, b__law_most := b28, g__law_most := PySem.W.mg_of X G a28, f__law_stair := _, fd__law_stair := _, F__law_stair := F29, b__law_stair := b29, g__law_stair := PySem.W.mg_of X G a29, f__law_some_stair := _, fd__law_some_stair := _, F__law_some_stair := F30, b__law_some_stair := b30, g__law_some_stair := PySem.W.mg_of X G a30, f_law := _, fd_law := _, F_law := F31, b_law := b31, g_law := PySem.W.mg_of X G a31, z_isinstance := PySem.W.mg_none_of X G z_isinstance, z_int := PySem.W.mg_none_of X G z_int, z_bool := PySem.W.mg_none_of X G z_bool, z_list := PySem.W.mg_none_of X G z_list, z_tuple := PySem.W.mg_none_of X G z_tuple, z_max := PySem.W.mg_none_of X G z_max, z_sorted := PySem.W.mg_none_of X G z_sorted, z_min := PySem.W.mg_none_of X G z_min, z_any := PySem.W.mg_none_of X G z_any, z_len := PySem.W.mg_none_of X G z_len, z_all := PySem.W.mg_none_of X G z_all, z_zip := PySem.W.mg_none_of X G z_zip, z_abs := PySem.W.mg_none_of X G z_abs, z_range := PySem.W.mg_none_of X G z_range, z_enumerate := PySem.W.mg_none_of X G z_enumerate, c_MOST_LIMIT := ⟨_, PySem.W.mg_of X G q_MOST_LIMIT⟩ }, rfl, rfl⟩
  obtain ⟨g, e1, e2⟩ := GGv
  refine ⟨PySem.W.fnOf "law" "law" (defArgs st_law) (defBody st_law) (defScope st_law) .none kV31 dc31 pm31 an31 cd31 ct31, fun s v => .of_eq rfl, fun base _ _ => ?_⟩
  have h := ok_law (P := l.prog) (w := w) (base := base) g
  rw [e1, e2] at h
  exact h
end DL
open PySem PySem.W PyProof.Rows
set_option maxHeartbeats 0 in
theorem PySem.Challenge.cw_quietcount_k14_whole_least_limits_tell_t_holds : PySem.Challenge.rw_quietcount_k14_whole_least_limits_tell_t.Holds := by
  w_on; o_law; k_head; (case hw => w_witness2)
  k_fill
  refine L2.walk_of (l := PySem.Challenge.rw_quietcount_k14_whole_least_limits_tell_t) (n := 63) (k := 7) (x := "script") (CX := fun _ => L2.CX0) (sp := fun w => DL.spD _ 1 DL.φ_law) rfl (by decide) rfl ⟨rfl, by decide, by decide⟩ (fun w h Y => PySem.W.kIn_of Y) ?F (fun _ _ a ns hl _ hS => DL.end_sp DL.math hl hS) (fun _ _ _ _ _ h => h)
  case F =>
    intro w mg fa h KX G hmg
    refine' DL.all_mk KX G hmg ?a0 ?l0 ?c0 ?k0 ?a1 ?l1 ?c1 ?k1 ?a2 ?l2 ?c2 ?k2 ?a3 ?l3 ?c3 ?k3 ?a4 ?l4 ?c4 ?k4 ?a5 ?l5 ?c5 ?k5 ?a6 ?l6 ?c6 ?k6 ?a7 ?l7 ?c7 ?k7 ?a8 ?l8 ?c8 ?k8 ?a9 ?l9 ?c9 ?k9 ?a10 ?l10 ?c10 ?k10 ?a11 ?l11 ?c11 ?k11 ?a12 ?l12 ?c12 ?k12 ?a13 ?l13 ?c13 ?k13 ?a14 ?l14 ?c14 ?k14 ?a15 ?l15 ?c15 ?k15 ?a16 ?l16 ?c16 ?k16 ?a17 ?l17 ?c17 ?k17 ?a18 ?l18 ?c18 ?k18 ?a19 ?l19 ?c19 ?k19 ?a20 ?l20 ?c20 ?k20 ?a21 ?l21 ?c21 ?k21 ?a22 ?l22 ?c22 ?k22 ?a23 ?l23 ?c23 ?k23 ?a24 ?l24 ?c24 ?k24 ?a25 ?l25 ?c25 ?k25 ?a26 ?l26 ?c26 ?k26 ?a27 ?l27 ?c27 ?k27 ?a28 ?l28 ?c28 ?k28 ?a29 ?l29 ?c29 ?k29 ?a30 ?l30 ?c30 ?k30 ?a31 ?l31 ?c31 ?k31 ?z_isinstance ?z_int ?z_bool ?z_list ?z_tuple ?z_max ?z_sorted ?z_min ?z_any ?z_len ?z_all ?z_zip ?z_abs ?z_range ?z_enumerate ?q_MOST_LIMIT
    (case a0 => k_is); (case l0 => k_is); (case c0 => k_is); (case k0 => k_is); (case a1 => k_is); (case l1 => k_is); (case c1 => k_is); (case k1 => k_is); (case a2 => k_is); (case l2 => k_is); (case c2 => k_is); (case k2 => k_is); (case a3 => k_is); (case l3 => k_is); (case c3 => k_is); (case k3 => k_is); (case a4 => k_is); (case l4 => k_is); (case c4 => k_is); (case k4 => k_is); (case a5 => k_is); (case l5 => k_is); (case c5 => k_is); (case k5 => k_is); (case a6 => k_is); (case l6 => k_is); (case c6 => k_is); (case k6 => k_is); (case a7 => k_is); (case l7 => k_is); (case c7 => k_is); (case k7 => k_is); (case a8 => k_is); (case l8 => k_is); (case c8 => k_is); (case k8 => k_is); (case a9 => k_is); (case l9 => k_is); (case c9 => k_is); (case k9 => k_is); (case a10 => k_is); (case l10 => k_is); (case c10 => k_is); (case k10 => k_is); (case a11 => k_is); (case l11 => k_is); (case c11 => k_is); (case k11 => k_is); (case a12 => k_is); (case l12 => k_is); (case c12 => k_is); (case k12 => k_is); (case a13 => k_is); (case l13 => k_is); (case c13 => k_is); (case k13 => k_is); (case a14 => k_is); (case l14 => k_is); (case c14 => k_is); (case k14 => k_is); (case a15 => k_is); (case l15 => k_is); (case c15 => k_is); (case k15 => k_is); (case a16 => k_is); (case l16 => k_is); (case c16 => k_is); (case k16 => k_is); (case a17 => k_is); (case l17 => k_is); (case c17 => k_is); (case k17 => k_is); (case a18 => k_is); (case l18 => k_is); (case c18 => k_is); (case k18 => k_is); (case a19 => k_is); (case l19 => k_is); (case c19 => k_is); (case k19 => k_is); (case a20 => k_is); (case l20 => k_is); (case c20 => k_is); (case k20 => k_is); (case a21 => k_is); (case l21 => k_is); (case c21 => k_is); (case k21 => k_is); (case a22 => k_is); (case l22 => k_is); (case c22 => k_is); (case k22 => k_is); (case a23 => k_is); (case l23 => k_is); (case c23 => k_is); (case k23 => k_is); (case a24 => k_is); (case l24 => k_is); (case c24 => k_is); (case k24 => k_is); (case a25 => k_is); (case l25 => k_is); (case c25 => k_is); (case k25 => k_is); (case a26 => k_is); (case l26 => k_is); (case c26 => k_is); (case k26 => k_is); (case a27 => k_is); (case l27 => k_is); (case c27 => k_is); (case k27 => k_is); (case a28 => k_is); (case l28 => k_is); (case c28 => k_is); (case k28 => k_is); (case a29 => k_is); (case l29 => k_is); (case c29 => k_is); (case k29 => k_is); (case a30 => k_is); (case l30 => k_is); (case c30 => k_is); (case k30 => k_is); (case a31 => k_is); (case l31 => k_is); (case c31 => k_is); (case k31 => k_is); (case z_isinstance => k_is); (case z_int => k_is); (case z_bool => k_is); (case z_list => k_is); (case z_tuple => k_is); (case z_max => k_is); (case z_sorted => k_is); (case z_min => k_is); (case z_any => k_is); (case z_len => k_is); (case z_all => k_is); (case z_zip => k_is); (case z_abs => k_is); (case z_range => k_is); (case z_enumerate => k_is); (case q_MOST_LIMIT => k_is)

