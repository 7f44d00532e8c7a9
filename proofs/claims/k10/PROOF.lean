import PyProof.Rows.All
import Wide.All
import OpenK.AllK
import Wide.FinOn
import HandS.ForMost
import HandS.Zip
import HandS.Walk
import HandS.IsInst
import HandS.SortKw
import HandS.TupAny
import HandS.TupLe
import HandS.NoneIn
import HandS.TryOnly
import HandS.Flow
import HandS.Wide
import KE.SortData
import KE.DataEq
import KE.DataCmp
import KE.DataMinMax
import KE.DatumOrd
import KE.DatumMore
import KE.KDictItemsList
import KE.GoesEnum
import KE.KDictZip
import HandS.Conv
import HandS.Style
import HandS.More
import HandS.Dict
import PySem.Challenge.RW_quietcount_k10_stairs_and_what_is_none
set_option Elab.async false
set_option linter.all false
set_option maxRecDepth 100000
set_option autoImplicit false
/-! DL: a layer over HandS in which a def is a function on plain data. -/
namespace DL
open PySem PySem.Spec PyProof.Rows L2

/-! ### data, and what it is in a heap -/
abbrev St := L2.St
inductive D where
  | non | bl (b : Bool) | int (i : Int) | str (x : Str) | lst (xs : List D) | tup (xs : List D) | dct (ks xs : List D) | mu (n : Nat) | ty (n : String)
/-! keys of dicts, as data -/
def keyD : Key → D
  | .inl i => .int i
  | .inr x => .str x
/-- the dict at a: its keys, its values -/
def DctAt (F : Hp) (a : Addr) (ks : List D) (vs : List V) : Prop :=
  (∃ kvs : List (Key × V), F a = some (.dK kvs) ∧ ks = kvs.map (fun p => keyD p.1) ∧ vs = kvs.map Prod.snd) ∨
  (∃ kvs : List (List Key × V), F a = some (.dT kvs) ∧ ks = kvs.map (fun p => .tup (p.1.map keyD)) ∧ vs = kvs.map Prod.snd)

/-! a value that is such data: what is read of it stands in F, which never changes; ι: where the things that change lie -/
mutual
def Rp (K : PySem.W.Frag) (F : Hp) (ι : List Addr) : D → V → Prop
  | .non, v => v = .non
  | .bl b, v => v = .bl b
  | .int i, v => v = .int i
  | .str x, v => v = .str x
  | .lst xs, v => ∃ a vs, v = .ref a ∧ SqL K F a vs ∧ vs.length ≤ sizeLine ∧ RpAll K F ι xs vs
  | .tup xs, v => ∃ a vs, v = .ref a ∧ SqT K F a vs ∧ vs.length ≤ sizeLine ∧ RpAll K F ι xs vs
  | .dct ks xs, v => ∃ a vs, v = .ref a ∧ DctAt F a ks vs ∧ RpAll K F ι xs vs
  | .mu n, v => ∃ a, v = .ref a ∧ ι[n]? = some a
  | .ty n, v => v = .ty n
def RpAll (K : PySem.W.Frag) (F : Hp) (ι : List Addr) : List D → List V → Prop
  | [], vs => vs = []
  | d :: ds, vs => ∃ v r, vs = v :: r ∧ Rp K F ι d v ∧ RpAll K F ι ds r
end

theorem same_t {K : PySem.W.Frag} {H H' : Hp} {a : Addr} {xs : List V} (e : Same H H') (h : SqT K H a xs) : SqT K H' a xs := by
  rcases h with (h | ⟨o, h⟩) | h
  · exact .inl (.inl (e _ _ h))
  · exact .inl (.inr ⟨o, e _ _ h⟩)
  · exact .inr h
theorem same_d {F F' : Hp} {a : Addr} {ks : List D} {vs : List V} (e : Same F F') (h : DctAt F a ks vs) : DctAt F' a ks vs := by
  rcases h with ⟨kvs, h, r⟩ | ⟨kvs, h, r⟩
  · exact .inl ⟨kvs, e _ _ h, r⟩
  · exact .inr ⟨kvs, e _ _ h, r⟩
theorem pre_get {ι ι' : List Addr} (p : ι <+: ι') {n : Nat} {a : Addr} (h : ι[n]? = some a) : ι'[n]? = some a := by
  obtain ⟨t, rfl⟩ := p
  rw [List.getElem?_append_left (List.getElem?_eq_some_iff.mp h).1]
  exact h
section
variable {K : PySem.W.Frag} {F F' : Hp} {ι ι' : List Addr}
mutual
theorem Rp.mono (e : Same F F') (p : ι <+: ι') : ∀ (d : D) (v : V), Rp K F ι d v → Rp K F' ι' d v
  | .non, _, h => h
  | .bl _, _, h => h
  | .int _, _, h => h
  | .str _, _, h => h
  | .ty _, _, h => h
  | .lst xs, _, ⟨a, vs, h1, h2, hl, h3⟩ => ⟨a, vs, h1, e.seq h2, hl, RpAll.mono e p xs vs h3⟩
  | .tup xs, _, ⟨a, vs, h1, h2, hl, h3⟩ => ⟨a, vs, h1, same_t e h2, hl, RpAll.mono e p xs vs h3⟩
  | .dct ks xs, _, ⟨a, vs, h1, h2, h3⟩ => ⟨a, vs, h1, same_d e h2, RpAll.mono e p xs vs h3⟩
  | .mu n, _, ⟨a, h1, h2⟩ => ⟨a, h1, pre_get p h2⟩
theorem RpAll.mono (e : Same F F') (p : ι <+: ι') : ∀ (ds : List D) (vs : List V), RpAll K F ι ds vs → RpAll K F' ι' ds vs
  | [], _, h => h
  | d :: ds, _, ⟨v, r, h1, h2, h3⟩ => ⟨v, r, h1, Rp.mono e p d v h2, RpAll.mono e p ds r h3⟩
end
theorem RpAll.len : ∀ {ds : List D} {vs : List V}, RpAll K F ι ds vs → vs.length = ds.length
  | [], _, h => by rw [show _ = [] from h]; rfl
  | d :: ds, _, ⟨v, r, h1, _, h3⟩ => by rw [h1, List.length_cons, List.length_cons, RpAll.len h3]
theorem RpAll.get : ∀ {ds : List D} {vs : List V}, RpAll K F ι ds vs → ∀ {i : Nat} {d : D}, ds[i]? = some d → ∃ v, vs[i]? = some v ∧ Rp K F ι d v
  | [], _, _, i, d, e => by simp at e
  | d :: ds, _, ⟨v, r, h1, h2, h3⟩, 0, d', e => by
    subst h1
    simp only [List.getElem?_cons_zero, Option.some.injEq] at e
    subst e
    exact ⟨v, rfl, h2⟩
  | d :: ds, _, ⟨v, r, h1, h2, h3⟩, i + 1, d', e => by
    subst h1
    exact RpAll.get h3 (by simpa using e)
theorem RpAll.get' : ∀ {ds : List D} {vs : List V}, RpAll K F ι ds vs → ∀ {i : Nat} {v : V}, vs[i]? = some v → ∃ d, ds[i]? = some d ∧ Rp K F ι d v
  | [], _, h, i, v, e => by rw [show _ = [] from h] at e; simp at e
  | d :: ds, _, ⟨v, r, h1, h2, h3⟩, 0, d', e => by
    subst h1
    simp only [List.getElem?_cons_zero, Option.some.injEq] at e
    subst e
    exact ⟨d, rfl, h2⟩
  | d :: ds, _, ⟨v, r, h1, h2, h3⟩, i + 1, d', e => by
    subst h1
    exact RpAll.get' h3 (by simpa using e)
theorem RpAll.append : ∀ {ds es : List D} {vs ws : List V}, RpAll K F ι ds vs → RpAll K F ι es ws → RpAll K F ι (ds ++ es) (vs ++ ws)
  | [], _, _, _, h, q => by rw [show _ = [] from h]; exact q
  | d :: ds, _, _, _, ⟨v, r, h1, h2, h3⟩, q => by subst h1; exact ⟨v, r ++ _, rfl, h2, RpAll.append h3 q⟩
theorem RpAll.take : ∀ {ds : List D} {vs : List V} (n : Nat), RpAll K F ι ds vs → RpAll K F ι (ds.take n) (vs.take n)
  | _, _, 0, _ => by rw [List.take_zero, List.take_zero]; exact rfl
  | [], _, _ + 1, h => by rw [show _ = [] from h]; exact rfl
  | d :: ds, _, n + 1, ⟨v, r, h1, h2, h3⟩ => by subst h1; exact ⟨v, r.take n, rfl, h2, RpAll.take n h3⟩
theorem RpAll.drop : ∀ {ds : List D} {vs : List V} (n : Nat), RpAll K F ι ds vs → RpAll K F ι (ds.drop n) (vs.drop n)
  | _, _, 0, h => by rw [List.drop_zero, List.drop_zero]; exact h
  | [], _, _ + 1, h => by rw [show _ = [] from h]; exact rfl
  | d :: ds, _, n + 1, ⟨v, r, h1, h2, h3⟩ => by subst h1; exact RpAll.drop n h3
theorem RpAll.set : ∀ {ds : List D} {vs : List V} (n : Nat) {d : D} {v : V}, RpAll K F ι ds vs → Rp K F ι d v → RpAll K F ι (ds.set n d) (vs.set n v)
  | [], _, _, _, _, h, _ => by rw [show _ = [] from h]; exact rfl
  | d :: ds, _, 0, _, _, ⟨v, r, h1, h2, h3⟩, q => by subst h1; exact ⟨_, r, rfl, q, h3⟩
  | d :: ds, _, n + 1, _, _, ⟨v, r, h1, h2, h3⟩, q => by subst h1; exact ⟨v, r.set n _, rfl, h2, RpAll.set n h3 q⟩
theorem RpAll.eraseIdx : ∀ {ds : List D} {vs : List V} (n : Nat), RpAll K F ι ds vs → RpAll K F ι (ds.eraseIdx n) (vs.eraseIdx n)
  | [], _, _, h => by rw [show _ = [] from h]; exact rfl
  | d :: ds, _, 0, ⟨v, r, h1, h2, h3⟩ => by subst h1; exact h3
  | d :: ds, _, n + 1, ⟨v, r, h1, h2, h3⟩ => by subst h1; exact ⟨v, r.eraseIdx n, rfl, h2, RpAll.eraseIdx n h3⟩
theorem RpAll.snoc {ds : List D} {vs : List V} {d : D} {v : V} (h : RpAll K F ι ds vs) (q : Rp K F ι d v) : RpAll K F ι (ds ++ [d]) (vs ++ [v]) :=
  h.append ⟨v, [], rfl, q, rfl⟩
end

/-! ### states -/
abbrev Sto := List (List D)
structure Bas where
  F : Hp
  ι : List Addr
  H : Hp
structure Sok (K : PySem.W.Frag) (c : Bas) (S : Sto) : Prop where
  f : Same c.F c.H
  nd : c.ι.Nodup
  len : c.ι.length = S.length
  fi : ∀ a ∈ c.ι, c.F a = none
  s : ∀ (n : Nat) (a : Addr) (ds : List D), c.ι[n]? = some a → S[n]? = some ds → ∃ vs, c.H a = some (.lst vs) ∧ vs.length ≤ sizeLine ∧ RpAll K c.F c.ι ds vs
structure Step (c c' : Bas) : Prop where
  same : Same c.F c'.F
  grow : ∀ a o, c'.F a = some o → c.F a = some o ∨ c.H a = none
  fr : ∀ a o, c.H a = some o → a ∉ c.ι → (∀ ps, o ≠ .tbl ps) → c'.H a = some o
  dom : ∀ a, c.H a ≠ none → c'.H a ≠ none
  pre : c.ι <+: c'.ι
  new : ∀ a ∈ c'.ι, a ∈ c.ι ∨ c.H a = none
theorem Step.refl (c : Bas) : Step c c := ⟨Same.refl _, fun _ _ h => .inl h, fun _ _ h _ _ => h, fun _ h => h, List.prefix_rfl, fun _ h => .inl h⟩
theorem Step.trans {a b c : Bas} (h : Step a b) (q : Step b c) : Step a c where
  same := h.same.trans q.same
  grow := fun x o e => by
    rcases q.grow x o e with e1 | e1
    · exact h.grow x o e1
    · refine .inr (Classical.byContradiction fun n => h.dom x n e1)
  fr := fun x o e n t => q.fr x o (h.fr x o e n t) (fun hm => by
    rcases h.new x hm with r | r
    · exact n r
    · rw [e] at r; cases r) t
  dom := fun x n => q.dom x (h.dom x n)
  pre := h.pre.trans q.pre
  new := fun x hm => by
    rcases q.new x hm with r | r
    · exact h.new x r
    · exact .inr (Classical.byContradiction fun n => h.dom x n r)
theorem Step.rp {K : PySem.W.Frag} {c c' : Bas} (h : Step c c') {d : D} {v : V} (r : Rp K c.F c.ι d v) : Rp K c'.F c'.ι d v := Rp.mono h.same h.pre d v r
theorem Step.rpAll {K : PySem.W.Frag} {c c' : Bas} (h : Step c c') {ds : List D} {vs : List V} (r : RpAll K c.F c.ι ds vs) : RpAll K c'.F c'.ι ds vs := RpAll.mono h.same h.pre ds vs r

inductive Slot where
  | sh (d : D) | own (ds : List D)
abbrev Env := List (Option Slot)
/-- a list that only a name of the def knows: it may change -/
def OwnAt (K : PySem.W.Frag) (B : Hp) (c : Bas) (ds : List D) (v : V) : Prop :=
  ∃ a vs, v = .ref a ∧ c.H a = some (.lst vs) ∧ vs.length ≤ sizeLine ∧ RpAll K c.F c.ι ds vs ∧ c.F a = none ∧ a ∉ c.ι ∧ B a = none
def SlotOk (K : PySem.W.Frag) (B : Hp) (c : Bas) : Slot → V → Prop
  | .sh d, v => Rp K c.F c.ι d v
  | .own ds, v => OwnAt K B c ds v
structure Eok (K : PySem.W.Frag) (B : Hp) (c : Bas) (σ : St) (env : Env) : Prop where
  len : env.length = σ.length
  at_ : ∀ (i : Nat) (x : Slot), env[i]? = some (some x) → ∃ v, σ[i]? = some (some v) ∧ SlotOk K B c x v
  inj : ∀ (i j : Nat) (ds es : List D), env[i]? = some (some (.own ds)) → env[j]? = some (some (.own es)) → i ≠ j → σ[i]? ≠ σ[j]?
theorem OwnAt.step {K : PySem.W.Frag} {B : Hp} {c c' : Bas} {ds : List D} {v : V} (h : OwnAt K B c ds v) (s : Step c c') : OwnAt K B c' ds v := by
  obtain ⟨a, vs, e, h1, hl, h2, h3, h4, h5⟩ := h
  refine ⟨a, vs, e, s.fr a _ h1 h4 (fun ps z => by cases z), hl, s.rpAll h2, ?_, fun hm => ?_, h5⟩
  · cases q : c'.F a with
    | none => rfl
    | some o =>
      rcases s.grow a o q with r | r
      · rw [h3] at r; cases r
      · rw [h1] at r; cases r
  · rcases s.new a hm with r | r
    · exact h4 r
    · rw [h1] at r; cases r
theorem Eok.step {K : PySem.W.Frag} {B : Hp} {c c' : Bas} {σ : St} {env : Env} (h : Eok K B c σ env) (s : Step c c') : Eok K B c' σ env where
  len := h.len
  at_ := fun i x e => by
    obtain ⟨v, h1, h2⟩ := h.at_ i x e
    refine ⟨v, h1, ?_⟩
    cases x with
    | sh d => exact s.rp h2
    | own ds => exact OwnAt.step h2 s
  inj := h.inj
/-- the whole state, of a def that began at B -/
structure Stt (K : PySem.W.Frag) (B c : Bas) (S : Sto) (σ : St) (env : Env) : Prop where
  ok : Sok K c S
  env : Eok K B.H c σ env
  st : Step B c
theorem Stt.step {K : PySem.W.Frag} {B c c' : Bas} {S S' : Sto} {σ : St} {env : Env} (h : Stt K B c S σ env) (s : Step c c') (o : Sok K c' S') : Stt K B c' S' σ env :=
  ⟨o, h.env.step s, h.st.trans s⟩

/-! ### results -/
inductive Res (α : Type) where
  | ok (a : α) (S : Sto)
  | stuck
def Res.bind {α β : Type} (r : Res α) (f : α → Sto → Res β) : Res β := match r with
  | .ok a S => f a S
  | .stuck => .stuck
theorem Res.bind_ok {α β : Type} {r : Res α} {f : α → Sto → Res β} {b : β} {S' : Sto} (h : r.bind f = .ok b S') : ∃ a S, r = .ok a S ∧ f a S = .ok b S' := by
  cases r with
  | ok a S => exact ⟨a, S, rfl, h⟩
  | stuck => cases h
inductive Out where
  | nx (env : Env) | rt (d : D) | bk (env : Env) | ct (env : Env)
abbrev EE := Env → Sto → Res D
abbrev ET := Env → Sto → Res Bool
abbrev EL := Env → Sto → Res (List D)
abbrev SS := Env → Sto → Res Out

/-! ### readings -/
/-- what an operand is: data, or a list that a name owns -/
def Rb (K : PySem.W.Frag) (B : Hp) (c : Bas) (d : D) (v : V) : Prop := Rp K c.F c.ι d v ∨ ∃ ds, d = .lst ds ∧ OwnAt K B c ds v
theorem Rb.step {K : PySem.W.Frag} {B : Hp} {c c' : Bas} {d : D} {v : V} (h : Rb K B c d v) (s : Step c c') : Rb K B c' d v := by
  rcases h with h | ⟨ds, e, h⟩
  · exact .inl (s.rp h)
  · exact .inr ⟨ds, e, h.step s⟩
def tD (K : PySem.W.Frag) (B : Bas) (f : EE) : TE := fun σ H Q => ∃ F ι S env, Stt K B ⟨F, ι, H⟩ S σ env ∧ ∃ d S', f env S = .ok d S' ∧
  ∀ v c', Step ⟨F, ι, H⟩ c' → Sok K c' S' → Rp K c'.F c'.ι d v → Q v c'.H
def tB (K : PySem.W.Frag) (B : Bas) (f : EE) : TE := fun σ H Q => ∃ F ι S env, Stt K B ⟨F, ι, H⟩ S σ env ∧ ∃ d S', f env S = .ok d S' ∧
  ∀ v c', Step ⟨F, ι, H⟩ c' → Sok K c' S' → Rb K B.H c' d v → Q v c'.H
/-- a new list, which nobody knows -/
def NewAt (K : PySem.W.Frag) (c c' : Bas) (ds : List D) (v : V) : Prop :=
  ∃ a vs, v = .ref a ∧ c.H a = none ∧ c'.H a = some (.lst vs) ∧ vs.length ≤ sizeLine ∧ RpAll K c'.F c'.ι ds vs ∧ c'.F a = none ∧ a ∉ c'.ι
def tN (K : PySem.W.Frag) (B : Bas) (f : EL) : TE := fun σ H Q => ∃ F ι S env, Stt K B ⟨F, ι, H⟩ S σ env ∧ ∃ ds S', f env S = .ok ds S' ∧
  ∀ v c', Step ⟨F, ι, H⟩ c' → Sok K c' S' → NewAt K ⟨F, ι, H⟩ c' ds v → Q v c'.H
def tT (K : PySem.W.Frag) (B : Bas) (f : ET) : TT := fun σ H Q => ∃ F ι S env, Stt K B ⟨F, ι, H⟩ S σ env ∧ ∃ b S', f env S = .ok b S' ∧
  ∀ c', Step ⟨F, ι, H⟩ c' → Sok K c' S' → Q b c'.H
def RbAll (K : PySem.W.Frag) (B : Hp) (c : Bas) : List D → List V → Prop
  | [], vs => vs = []
  | d :: ds, vs => ∃ v r, vs = v :: r ∧ Rb K B c d v ∧ RbAll K B c ds r
/-- arguments: borrowed, or data alone -/
def tAB (K : PySem.W.Frag) (B : Bas) (f : EL) : TA := fun σ H Q => ∃ F ι S env, Stt K B ⟨F, ι, H⟩ S σ env ∧ ∃ ds S', f env S = .ok ds S' ∧
  ∀ vs c', Step ⟨F, ι, H⟩ c' → Sok K c' S' → RbAll K B.H c' ds vs → Q vs c'.H
def tA (K : PySem.W.Frag) (B : Bas) (f : EL) : TA := fun σ H Q => ∃ F ι S env, Stt K B ⟨F, ι, H⟩ S σ env ∧ ∃ ds S', f env S = .ok ds S' ∧
  ∀ vs c', Step ⟨F, ι, H⟩ c' → Sok K c' S' → RpAll K c'.F c'.ι ds vs → Q vs c'.H
def outOk (K : PySem.W.Frag) (B : Bas) (S' : Sto) (E : Ends) : Out → Prop
  | .nx env' => ∀ σ' c', Stt K B c' S' σ' env' → E.nx σ' c'.H
  | .rt d => ∀ v c', Step B c' → Sok K c' S' → Rp K c'.F c'.ι d v → E.rt v c'.H
  | .bk env' => ∀ σ' c', Stt K B c' S' σ' env' → E.bk σ' c'.H
  | .ct env' => ∀ σ' c', Stt K B c' S' σ' env' → E.ct σ' c'.H
def tS (K : PySem.W.Frag) (B : Bas) (f : SS) : TS := fun E σ H => ∃ F ι S env, Stt K B ⟨F, ι, H⟩ S σ env ∧ ∃ o S', f env S = .ok o S' ∧ outOk K B S' E o

theorem _root_.L2.PE.imp {X : Cx} {e : Expr} {t t' : TE} (h : PE X e t) (i : ∀ σ H Q, t' σ H Q → t σ H Q) : PE X e t' := ⟨fun pins s σ H Q I q => h.run pins s σ H Q I (i σ H Q q)⟩
theorem _root_.L2.PT.imp {X : Cx} {e : Expr} {t t' : TT} (h : PT X e t) (i : ∀ σ H Q, t' σ H Q → t σ H Q) : PT X e t' := ⟨fun pins s σ H Q I q => h.run pins s σ H Q I (i σ H Q q)⟩
theorem _root_.L2.PW.imp {X : Cx} {e : Expr} {t t' : TT} (h : PW X e t) (i : ∀ σ H Q, t' σ H Q → t σ H Q) : PW X e t' := ⟨fun w pins s σ H Q I q => h.run w pins s σ H Q I (i σ H Q q)⟩
theorem _root_.L2.PA.imp {X : Cx} {es : List Expr} {t t' : TA} (h : PA X es t) (i : ∀ σ H Q, t' σ H Q → t σ H Q) : PA X es t' := ⟨fun pos pins s σ H Q I q => h.run pos pins s σ H Q I (i σ H Q q)⟩
theorem _root_.L2.PS.imp {X : Cx} {st : Stmt} {t t' : TS} (h : PS X st t) (i : ∀ E σ H, t' E σ H → t E σ H) : PS X st t' := ⟨fun pins s σ H E I q => h.run pins s σ H E I (i E σ H q)⟩
theorem _root_.L2.PSs.imp {X : Cx} {st : List Stmt} {t t' : TS} (h : PSs X st t) (i : ∀ E σ H, t' E σ H → t E σ H) : PSs X st t' := ⟨fun pins s σ H E I q => h.run pins s σ H E I (i E σ H q)⟩
/-- with what the state itself tells -/
theorem _root_.L2.PE.impI {X : Cx} {e : Expr} {t t' : TE} (h : PE X e t) (i : ∀ pins s σ H Q, Inv X pins σ H s → t' σ H Q → t σ H Q) : PE X e t' := ⟨fun pins s σ H Q I q => h.run pins s σ H Q I (i pins s σ H Q I q)⟩

section
variable {X : Cx} {K : PySem.W.Frag} {B : Bas}
theorem d_b {e : Expr} {f : EE} (h : PE X e (tD K B f)) : PE X e (tB K B f) := h.imp fun σ H Q ⟨F, ι, S, env, st, d, S', e, q⟩ => ⟨F, ι, S, env, st, d, S', e, fun v c' s o r => q v c' s o (.inl r)⟩
/-- a new list becomes data -/
theorem frz_new {c c' : Bas} {S' : Sto} {ds : List D} {v : V} (st : Step c c') (ok : Sok K c' S') (h : NewAt K c c' ds v) :
    ∃ F', Step c ⟨F', c'.ι, c'.H⟩ ∧ Sok K ⟨F', c'.ι, c'.H⟩ S' ∧ Rp K F' c'.ι (.lst ds) v := by
  obtain ⟨a, vs, e, h1, h2, hl, h3, h4, h5⟩ := h
  have sm : Same c'.F (upd c'.F a (.lst vs)) := fun b o q => by
    rw [upd_ne (ne_of_none q h4)]
    exact q
  refine ⟨upd c'.F a (.lst vs), ⟨st.same.trans sm, fun b o q => ?_, st.fr, st.dom, st.pre, st.new⟩, ⟨fun b o q => ?_, ok.nd, ok.len, fun b hb => ?_, fun n b es h6 h7 => ?_⟩, ⟨a, vs, e, SqL.of upd_same, hl, RpAll.mono sm List.prefix_rfl _ _ h3⟩⟩
  · by_cases hb : b = a
    · subst hb; exact .inr h1
    · have q' : c'.F b = some o := by
        have := q
        rw [show (Bas.mk (upd c'.F a (.lst vs)) c'.ι c'.H).F = upd c'.F a (.lst vs) from rfl, upd_ne hb] at this
        exact this
      exact st.grow b o q'
  · by_cases hb : b = a
    · subst hb
      have q' : upd c'.F b (.lst vs) b = some o := q
      rw [upd_same] at q'
      rw [← q']
      exact h2
    · have q' : upd c'.F a (.lst vs) b = some o := q
      rw [upd_ne hb] at q'
      exact ok.f b o q'
  · have hb' : b ≠ a := fun z => h5 (z ▸ hb)
    show upd c'.F a (.lst vs) b = none
    rw [upd_ne hb']
    exact ok.fi b hb
  · obtain ⟨ws, g1, g2, g3⟩ := ok.s n b es h6 h7
    exact ⟨ws, g1, g2, RpAll.mono sm List.prefix_rfl _ _ g3⟩
def eLst (f : EL) : EE := fun env S => (f env S).bind fun ds S => .ok (.lst ds) S
theorem n_d {e : Expr} {f : EL} (h : PE X e (tN K B f)) : PE X e (tD K B (eLst f)) := h.imp fun σ H Q ⟨F, ι, S, env, st, d, S', e, q⟩ => by
  obtain ⟨ds, S1, e1, e2⟩ := Res.bind_ok e
  cases e2
  refine ⟨F, ι, S, env, st, ds, _, e1, fun v c' s o n => ?_⟩
  obtain ⟨F', s', o', r⟩ := frz_new s o n
  exact q v ⟨F', c'.ι, c'.H⟩ s' o' r

/-! ### names, constants -/
def eC (d : D) : EE := fun _ S => .ok d S
theorem _root_.L2.PE.const {e : Expr} {d : D} {v : V} (h : PE X e (tC v)) (r : ∀ F ι, Rp K F ι d v) : PE X e (tD K B (eC d)) := h.imp fun σ H Q ⟨F, ι, S, env, st, d', S', e, q⟩ => by
  cases e
  exact q v _ (Step.refl _) st.ok (r _ _)
theorem d_int {i j pos} : PE X (.Constant (.int i) j pos) (tD K B (eC (.int i))) := PE.const pe_int fun _ _ => rfl
theorem d_bl {b j pos} : PE X (.Constant (.bool b) j pos) (tD K B (eC (.bl b))) := PE.const pe_bl fun _ _ => rfl
theorem d_non {j pos} : PE X (.Constant .none j pos) (tD K B (eC .non)) := PE.const pe_non fun _ _ => rfl
theorem d_str {x j pos} : PE X (.Constant (.str x) j pos) (tD K B (eC (.str x))) := PE.const pe_str fun _ _ => rfl
def eV (i : Nat) : EE := fun env S => match env[i]? with
  | some (some (.sh d)) => .ok d S
  | _ => .stuck
def eVb (i : Nat) : EE := fun env S => match env[i]? with
  | some (some (.sh d)) => .ok d S
  | some (some (.own ds)) => .ok (.lst ds) S
  | _ => .stuck
theorem d_var {e : Expr} {i : Nat} (h : PE X e (tVar i)) : PE X e (tD K B (eV i)) := h.imp fun σ H Q ⟨F, ι, S, env, st, d, S', e, q⟩ => by
  unfold eV at e
  split at e
  · rename_i d' h1
    cases e
    obtain ⟨v, h2, h3⟩ := st.env.at_ i _ h1
    exact ⟨v, h2, q v _ (Step.refl _) st.ok h3⟩
  · cases e
theorem b_var {e : Expr} {i : Nat} (h : PE X e (tVar i)) : PE X e (tB K B (eVb i)) := h.imp fun σ H Q ⟨F, ι, S, env, st, d, S', e, q⟩ => by
  unfold eVb at e
  split at e
  · rename_i d' h1
    cases e
    obtain ⟨v, h2, h3⟩ := st.env.at_ i _ h1
    exact ⟨v, h2, q v _ (Step.refl _) st.ok (.inl h3)⟩
  · rename_i d' h1
    cases e
    obtain ⟨v, h2, h3⟩ := st.env.at_ i _ h1
    exact ⟨v, h2, q v _ (Step.refl _) st.ok (.inr ⟨_, rfl, h3⟩)⟩
  · cases e
end
end DL

/-! DL2: operators, comparisons, tests, arguments, displays, subscripts. -/
namespace DL
open PySem PySem.Spec PyProof.Rows L2

/-! ### data without things that change, as the library's data -/
mutual
def toPy : D → PyData
  | .non => .none
  | .bl b => .bool b
  | .int i => .int i
  | .str x => .str x
  | .lst xs => .list (toPyAll xs)
  | .tup xs => .tuple (toPyAll xs)
  | .mu _ => .none
  | .dct _ _ => .none
  | .ty _ => .none
def toPyAll : List D → List PyData
  | [] => []
  | d :: ds => toPy d :: toPyAll ds
end
mutual
def pl : D → Bool
  | .non => true
  | .bl _ => true
  | .int _ => true
  | .str _ => true
  | .lst xs => plAll xs
  | .tup xs => plAll xs
  | .mu _ => false
  | .dct _ _ => false
  | .ty _ => false
def plAll : List D → Bool
  | [] => true
  | d :: ds => pl d && plAll ds
end
mutual
theorem plain_toPy : ∀ d : D, (toPy d).plain = true
  | .non => rfl
  | .bl _ => rfl
  | .int _ => rfl
  | .str _ => rfl
  | .lst xs => by show PyData.plainAll (toPyAll xs) = true; exact plain_toPyAll xs
  | .tup xs => by show PyData.plainAll (toPyAll xs) = true; exact plain_toPyAll xs
  | .mu _ => rfl
  | .dct _ _ => rfl
  | .ty _ => rfl
theorem plain_toPyAll : ∀ ds : List D, PyData.plainAll (toPyAll ds) = true
  | [] => rfl
  | d :: ds => by
    show (PyData.plain (toPy d) && PyData.plainAll (toPyAll ds)) = true
    rw [plain_toPy d, plain_toPyAll ds] <;> rfl
end
section
variable {K : PySem.W.Frag} {F H : Hp} {ι : List Addr}
mutual
theorem Rp.dp (e : Same F H) : ∀ (d : D) (v : V), pl d = true → Rp K F ι d v → Dp K H v (toPy d)
  | .non, _, _, h => by cases (show _ = V.non from h); exact .non
  | .bl _, _, _, h => by cases (show _ = V.bl _ from h); exact .bl _
  | .int _, _, _, h => by cases (show _ = V.int _ from h); exact .int _
  | .str _, _, _, h => by cases (show _ = V.str _ from h); exact .str _
  | .lst xs, _, hp, ⟨a, vs, h1, h2, _, h3⟩ => by subst h1; exact .lst (e.seq h2) (RpAll.dp e xs vs hp h3)
  | .tup xs, _, hp, ⟨a, vs, h1, h2, _, h3⟩ => by subst h1; exact .tup (same_t e h2) (RpAll.dp e xs vs hp h3)
  | .mu _, _, hp, _ => by cases hp
  | .dct _ _, _, hp, _ => by cases hp
  | .ty _, _, hp, _ => by cases hp
theorem RpAll.dp (e : Same F H) : ∀ (ds : List D) (vs : List V), plAll ds = true → RpAll K F ι ds vs → DpAll K H vs (toPyAll ds)
  | [], _, _, h => by cases (show _ = [] from h); exact .nil
  | d :: ds, _, hp, ⟨v, r, h1, h2, h3⟩ => by
    have hp' : (pl d && plAll ds) = true := hp
    rw [Bool.and_eq_true] at hp'
    subst h1
    exact .cons (Rp.dp e d v hp'.1 h2) (RpAll.dp e ds r hp'.2 h3)
end
end
section
variable {K : PySem.W.Frag} {B : Hp} {c : Bas} {S : Sto}
theorem Rb.dp {d : D} {v : V} (ok : Sok K c S) (h : Rb K B c d v) (hp : pl d = true) : Dp K c.H v (toPy d) := by
  rcases h with h | ⟨ds, e, a, vs, e2, h1, _, h2, _⟩
  · exact Rp.dp ok.f d v hp h
  · subst e e2
    exact .lst (SqL.of h1) (RpAll.dp ok.f ds vs hp h2)
/-- an operand that is a list, a tuple -/
theorem Rb.lst {ds : List D} {v : V} (ok : Sok K c S) (h : Rb K B c (.lst ds) v) : ∃ a vs, v = .ref a ∧ SqL K c.H a vs ∧ vs.length ≤ sizeLine ∧ RpAll K c.F c.ι ds vs := by
  rcases h with ⟨a, vs, h1, h2, hl, h3⟩ | ⟨es, e, a, vs, e2, h1, hl, h2, _⟩
  · exact ⟨a, vs, h1, ok.f.seq h2, hl, h3⟩
  · cases e
    exact ⟨a, vs, e2, SqL.of h1, hl, h2⟩
theorem Rb.tup {ds : List D} {v : V} (ok : Sok K c S) (h : Rb K B c (.tup ds) v) : ∃ a vs, v = .ref a ∧ SqT K c.H a vs ∧ vs.length ≤ sizeLine ∧ RpAll K c.F c.ι ds vs := by
  rcases h with ⟨a, vs, h1, h2, hl, h3⟩ | ⟨es, e, _⟩
  · exact ⟨a, vs, h1, same_t ok.f h2, hl, h3⟩
  · cases e
theorem Rb.mu {n : Nat} {ds : List D} {v : V} (ok : Sok K c S) (h : Rb K B c (.mu n) v) (hs : S[n]? = some ds) : ∃ a vs, v = .ref a ∧ c.ι[n]? = some a ∧ c.H a = some (.lst vs) ∧ vs.length ≤ sizeLine ∧ RpAll K c.F c.ι ds vs := by
  rcases h with ⟨a, h1, h2⟩ | ⟨es, e, _⟩
  · obtain ⟨vs, g1, g2, g3⟩ := ok.s n a ds h2 hs
    exact ⟨a, vs, h1, h2, g1, g2, g3⟩
  · cases e
theorem Rb.int {i : Int} {v : V} (h : Rb K B c (.int i) v) : v = .int i := by
  rcases h with h | ⟨es, e, _⟩
  · exact h
  · cases e
theorem Rb.bl {i : Bool} {v : V} (h : Rb K B c (.bl i) v) : v = .bl i := by
  rcases h with h | ⟨es, e, _⟩
  · exact h
  · cases e
theorem Rb.str {i : Str} {v : V} (h : Rb K B c (.str i) v) : v = .str i := by
  rcases h with h | ⟨es, e, _⟩
  · exact h
  · cases e
theorem Rb.non {v : V} (h : Rb K B c .non v) : v = .non := by
  rcases h with h | ⟨es, e, _⟩
  · exact h
  · cases e
end

/-! ### operations on values -/
abbrev Op2 := D → D → Sto → Res D
def OpD (K : PySem.W.Frag) (r : R2) (op : Op2) : Prop := ∀ (B : Hp) (c : Bas) (S S' : Sto) (x y : V) (dx dy d : D), Sok K c S → Rb K B c dx x → Rb K B c dy y → op dx dy S = .ok d S' →
  ∀ Q : VK, (∀ v c', Step c c' → Sok K c' S' → Rp K c'.F c'.ι d v → Q v c'.H) → r x y c.H Q
def eBin (op : Op2) (f g : EE) : EE := fun env S => (f env S).bind fun x S => (g env S).bind fun y S => op x y S
/-- ints in, a datum out -/
def oI (p : Int → Int → Option D) : Op2 := fun x y S => match x, y with
  | .int i, .int j => (match p i j with
    | some d => .ok d S
    | none => .stuck)
  | _, _ => .stuck
theorem oI_ok {p : Int → Int → Option D} {x y d : D} {S S' : Sto} (h : oI p x y S = .ok d S') : ∃ i j, x = .int i ∧ y = .int j ∧ p i j = some d ∧ S' = S := by
  unfold oI at h
  split at h
  · split at h
    · rename_i hp
      cases h
      exact ⟨_, _, rfl, rfl, hp, rfl⟩
    · cases h
  · cases h
section
variable {K : PySem.W.Frag}
theorem OpD.ints {C : Int → Int → Prop} {g : Int → Int → V} {p : Int → Int → Option D} (h : ∀ i j d, p i j = some d → C i j ∧ ∀ F ι, Rp K F ι d (g i j)) : OpD K (rI C g) (oI p) := by
  intro B c S S' x y dx dy d ok hx hy e Q q
  obtain ⟨i, j, rfl, rfl, hp, rfl⟩ := oI_ok e
  obtain ⟨h1, h2⟩ := h i j d hp
  exact ⟨i, j, hx.int, hy.int, h1, q _ c (Step.refl c) ok (h2 _ _)⟩
theorem OpD.ints0 {g : Int → Int → V} {p : Int → Int → D} (h : ∀ i j F ι, Rp K F ι (p i j) (g i j)) : OpD K (rI0 g) (oI fun i j => some (p i j)) := by
  intro B c S S' x y dx dy d ok hx hy e Q q
  obtain ⟨i, j, rfl, rfl, hp, rfl⟩ := oI_ok e
  cases hp
  exact ⟨i, j, hx.int, hy.int, q _ c (Step.refl c) ok (h _ _ _ _)⟩
def oAdd : Op2 := oI fun i j => some (.int (i + j))
def oSub : Op2 := oI fun i j => some (.int (i - j))
def oMul : Op2 := oI fun i j => if (-(2 ^ 64) < i ∧ i < 2 ^ 64) ∨ (-(2 ^ 64) < j ∧ j < 2 ^ 64) then some (.int (i * j)) else none
def oMod : Op2 := oI fun i j => if 0 < j then some (.int (i % j)) else none
def oFdiv : Op2 := oI fun i j => if 0 < j ∧ j < 1073741824 then some (.int (i / j)) else none
def oPow : Op2 := oI fun i j => if 0 ≤ j ∧ j ≤ 1000000 ∧ i.natAbs < 2 ^ 64 then some (.int (i ^ j.toNat)) else none
theorem od_add : OpD K (rI0 fun i j => .int (i + j)) oAdd := OpD.ints0 fun _ _ _ _ => rfl
theorem od_sub : OpD K (rI0 fun i j => .int (i - j)) oSub := OpD.ints0 fun _ _ _ _ => rfl
theorem od_mul : OpD K (rI CMul fun i j => .int (i * j)) oMul := OpD.ints fun i j d h => by
  split at h
  · rename_i hc
    cases h
    exact ⟨hc, fun _ _ => rfl⟩
  · cases h
theorem od_mod : OpD K (rI (fun _ j => 0 < j) fun i j => .int (i % j)) oMod := OpD.ints fun i j d h => by
  split at h
  · rename_i hc
    cases h
    exact ⟨hc, fun _ _ => rfl⟩
  · cases h
theorem od_fdiv : OpD K (rI CDiv fun i j => .int (i / j)) oFdiv := OpD.ints fun i j d h => by
  split at h
  · rename_i hc
    cases h
    exact ⟨hc, fun _ _ => rfl⟩
  · cases h
theorem od_pow : OpD K (rI CPow fun i j => .int (i ^ j.toNat)) oPow := OpD.ints fun i j d h => by
  split at h
  · rename_i hc
    cases h
    exact ⟨hc, fun _ _ => rfl⟩
  · cases h
/-! comparisons -/
def oC (p : Int → Int → Bool) : Op2 := oI fun i j => some (.bl (p i j))
theorem od_cmp {p : Int → Int → Bool} : OpD K (rI0 fun i j => .bl (p i j)) (oC p) := OpD.ints0 fun _ _ _ _ => rfl
abbrev oLt : Op2 := oC fun i j => decide (i < j)
abbrev oLe : Op2 := oC fun i j => decide (i ≤ j)
abbrev oGt : Op2 := oC fun i j => decide (j < i)
abbrev oGe : Op2 := oC fun i j => decide (j ≤ i)
/-- data that == may compare -/
def okD (x : D) : Bool := pl x && decide ((toPy x).depth ≤ 40)
def eqD (x y : D) : Bool := PyData.eqv (toPy x) (toPy y)
def oEq : Op2 := fun x y S => if okD x = true ∧ okD y = true then .ok (.bl (eqD x y)) S else .stuck
def oNe : Op2 := fun x y S => if okD x = true ∧ okD y = true then .ok (.bl (!eqD x y)) S else .stuck
def rEqP (K : PySem.W.Frag) : R2 := fun x y H Q => ∃ d e, Dp K H x d ∧ Dp K H y e ∧ d.plain = true ∧ e.plain = true ∧ d.depth ≤ 40 ∧ Q (.bl (PyData.eqv d e)) H
def rNeP (K : PySem.W.Frag) : R2 := fun x y H Q => ∃ d e, Dp K H x d ∧ Dp K H y e ∧ d.plain = true ∧ e.plain = true ∧ d.depth ≤ 40 ∧ Q (.bl (!PyData.eqv d e)) H
theorem op_eqP {X : Cx} (hu : X.A.units + 64 < cLine) : OpR X (compareOp .Eq) (rEqP X.K) := by
  intro pins s σ H x y v u Q I rx ry h
  obtain ⟨d, e, hd, he, sd, se, hz, q⟩ := h
  obtain ⟨as, r1⟩ := Dp.reads I d x v hd rx
  obtain ⟨bs, r2⟩ := Dp.reads I e y u he ry
  have := Nat.min_le_left d.depth e.depth
  exact SeqAt.eq_plain r1 r2 sd se (by omega) ⟨.bl _, H, I, rfl, q⟩
theorem op_neP {X : Cx} (hu : X.A.units + 64 < cLine) : OpR X (compareOp .NotEq) (rNeP X.K) := by
  intro pins s σ H x y v u Q I rx ry h
  obtain ⟨d, e, hd, he, sd, se, hz, q⟩ := h
  obtain ⟨as, r1⟩ := Dp.reads I d x v hd rx
  obtain ⟨bs, r2⟩ := Dp.reads I e y u he ry
  have := Nat.min_le_left d.depth e.depth
  exact SeqAt.ne_plain r1 r2 sd se (by omega) ⟨.bl _, H, I, rfl, q⟩
theorem okD_iff {x : D} (h : okD x = true) : pl x = true ∧ (toPy x).depth ≤ 40 := by
  have h' : (pl x && decide ((toPy x).depth ≤ 40)) = true := h
  rw [Bool.and_eq_true, decide_eq_true_eq] at h'
  exact h'
theorem od_eq : OpD K (rEqP K) oEq := by
  intro B c S S' x y dx dy d ok hx hy e Q q
  unfold oEq at e
  split at e
  · rename_i hc
    cases e
    obtain ⟨h1, h2⟩ := okD_iff hc.1
    obtain ⟨h3, _⟩ := okD_iff hc.2
    exact ⟨_, _, hx.dp ok h1, hy.dp ok h3, plain_toPy _, plain_toPy _, h2, q _ c (Step.refl c) ok rfl⟩
  · cases e
theorem od_ne : OpD K (rNeP K) oNe := by
  intro B c S S' x y dx dy d ok hx hy e Q q
  unfold oNe at e
  split at e
  · rename_i hc
    cases e
    obtain ⟨h1, h2⟩ := okD_iff hc.1
    obtain ⟨h3, _⟩ := okD_iff hc.2
    exact ⟨_, _, hx.dp ok h1, hy.dp ok h3, plain_toPy _, plain_toPy _, h2, q _ c (Step.refl c) ok rfl⟩
  · cases e
/-- is None -/
def isNon : D → Bool
  | .non => true
  | _ => false
def oIs : Op2 := fun x y S => match y with
  | .non => .ok (.bl (isNon x)) S
  | _ => .stuck
def oIsNot : Op2 := fun x y S => match y with
  | .non => .ok (.bl (!isNon x)) S
  | _ => .stuck
theorem isNon_v {B : Hp} {c : Bas} {d : D} {v : V} (h : Rb K B c d v) : decide (v = V.non) = isNon d := by
  rcases h with h | ⟨ds, e, a, vs, e2, _⟩
  · cases d with
    | non => cases (show v = V.non from h); rfl
    | bl b => cases (show v = V.bl b from h); rfl
    | int b => cases (show v = V.int b from h); rfl
    | str b => cases (show v = V.str b from h); rfl
    | ty b => cases (show v = V.ty b from h); rfl
    | lst xs => obtain ⟨a, vs, h1, _⟩ := h; cases h1; rfl
    | tup xs => obtain ⟨a, vs, h1, _⟩ := h; cases h1; rfl
    | mu n => obtain ⟨a, h1, _⟩ := h; cases h1; rfl
    | dct ks xs => obtain ⟨a, vs, h1, _⟩ := h; cases h1; rfl
  · subst e e2; rfl
theorem od_is : OpD K (fun x y H Q => y = .non ∧ Q (.bl (decide (x = .non))) H) oIs := by
  intro B c S S' x y dx dy d ok hx hy e Q q
  unfold oIs at e
  split at e
  · cases e
    refine ⟨hy.non, ?_⟩
    rw [isNon_v hx]
    exact q _ c (Step.refl c) ok rfl
  · cases e
theorem od_isnot : OpD K (fun x y H Q => y = .non ∧ Q (.bl (!decide (x = .non))) H) oIsNot := by
  intro B c S S' x y dx dy d ok hx hy e Q q
  unfold oIsNot at e
  split at e
  · cases e
    refine ⟨hy.non, ?_⟩
    rw [isNon_v hx]
    exact q _ c (Step.refl c) ok rfl
  · cases e
/-! subscripts -/
def oIx : Op2 := fun x y S => match x, y with
  | .lst ds, .int i => (match atI ds i with
    | some d => .ok d S
    | none => .stuck)
  | .tup ds, .int i => (match atI ds i with
    | some d => .ok d S
    | none => .stuck)
  | .mu n, .int i => (match (S[n]?).bind fun ds => atI ds i with
    | some d => .ok d S
    | none => .stuck)
  | _, _ => .stuck
theorem RpAll.atI {F : Hp} {ι : List Addr} {ds : List D} {vs : List V} (h : RpAll K F ι ds vs) {i : Int} {d : D} (e : atI ds i = some d) : ∃ v, L2.atI vs i = some v ∧ Rp K F ι d v := by
  unfold L2.atI at e ⊢
  rw [h.len]
  cases q : ixN ds.length i with
  | none => rw [q] at e; cases e
  | some j =>
    rw [q] at e
    exact h.get e
theorem od_ix : OpD K (rIx K) oIx := by
  intro B c S S' x y dx dy d ok hx hy e Q q
  unfold oIx at e
  split at e
  · split at e
    · rename_i ds i _ d' hd
      cases e
      obtain ⟨a, vs, e1, h1, _, h2⟩ := hx.lst ok
      obtain ⟨v, h3, h4⟩ := h2.atI hd
      exact .inl ⟨a, vs, i, v, e1, hy.int, h1, h3, q _ c (Step.refl c) ok h4⟩
    · cases e
  · split at e
    · rename_i ds i _ d' hd
      cases e
      obtain ⟨a, vs, e1, h1, _, h2⟩ := hx.tup ok
      obtain ⟨v, h3, h4⟩ := h2.atI hd
      exact .inr (.inl ⟨a, vs, i, v, e1, hy.int, h1, h3, q _ c (Step.refl c) ok h4⟩)
    · cases e
  · split at e
    · rename_i n i _ d' hd
      cases e
      obtain ⟨ds, g1, g2⟩ := Option.bind_eq_some_iff.mp hd
      obtain ⟨a, vs, e1, _, h1, _, h2⟩ := hx.mu ok g1
      obtain ⟨v, h3, h4⟩ := h2.atI g2
      exact .inl ⟨a, vs, i, v, e1, hy.int, SqL.of h1, h3, q _ c (Step.refl c) ok h4⟩
    · cases e
  · cases e
end

/-! ### the rules -/
section
variable {X : Cx} {K : PySem.W.Frag} {B : Bas} {a b e : Expr} {es : List Expr} {f g h : EE} {pos : Pos}
theorem bin_of {r : R2} {o : Op2} (od : OpD K r o) {σ : St} {H : Hp} {Q : VK} (q : tD K B (eBin o f g) σ H Q) : tOp r (tB K B f) (tB K B g) σ H Q := by
  obtain ⟨F, ι, S, env, st, d, S', e, q⟩ := q
  obtain ⟨x, S1, e1, e⟩ := Res.bind_ok e
  obtain ⟨y, S2, e2, e⟩ := Res.bind_ok e
  refine ⟨F, ι, S, env, st, x, S1, e1, fun v1 c1 s1 o1 r1 => ?_⟩
  refine ⟨c1.F, c1.ι, S1, env, st.step s1 o1, y, S2, e2, fun v2 c2 s2 o2 r2 => ?_⟩
  exact od B.H c2 S2 S' v1 v2 x y d o2 (r1.step s2) r2 e Q fun v c' s o r => q v c' ((s1.trans s2).trans s) o r
theorem d_bin {op : Operator} {r : R2} {o : Op2} (ho : OpR X (binaryOp op) r) (od : OpD K r o) (ha : PE X a (tB K B f)) (hb : PE X b (tB K B g)) : PE X (.BinOp a op b pos) (tD K B (eBin o f g)) :=
  (pe_op ho ha hb).imp fun _ _ _ q => bin_of od q
theorem d_cmp {op : CmpOp} {r : R2} {o : Op2} (ho : OpR X (compareOp op) r) (od : OpD K r o) (ha : PE X a (tB K B f)) (hb : PE X b (tB K B g)) (hm : behindInMarks op b = false) : PE X (.Compare a [op] [b] pos) (tD K B (eBin o f g)) :=
  (pe_cmpR ho ha hb hm).imp fun _ _ _ q => bin_of od q
theorem d_ix (ha : PE X a (tB K B f)) (hb : PE X b (tB K B g)) (hs : PlainIx b) (hK : X.K = K) : PE X (.Subscript a b pos) (tD K B (eBin oIx f g)) := by
  subst hK
  exact (pe_ix ix_seq ha hb hs).imp fun _ _ _ q => bin_of od_ix q
/-- a unary minus -/
def eNeg (f : EE) : EE := fun env S => (f env S).bind fun x S => match x with
  | .int i => .ok (.int (-i)) S
  | _ => .stuck
theorem d_neg (ha : PE X a (tB K B f)) : PE X (.UnaryOp .USub a pos) (tD K B (eNeg f)) := (pe_un un_neg ha).imp fun σ H Q ⟨F, ι, S, env, st, d, S', e, q⟩ => by
  obtain ⟨x, S1, e1, e⟩ := Res.bind_ok e
  refine ⟨F, ι, S, env, st, x, S1, e1, fun v1 c1 s1 o1 r1 => ?_⟩
  split at e
  · cases e
    exact ⟨_, r1.int, q _ c1 s1 o1 rfl⟩
  · cases e
/-! tests -/
def eTst (f : EE) : ET := fun env S => (f env S).bind fun x S => match x with
  | .bl b => .ok b S
  | _ => .stuck
theorem tst_of {t : TE} {σ : St} {H : Hp} {Q : Bool → Hp → Prop} (i : ∀ σ H Q, tD K B f σ H Q → t σ H Q) (q : tT K B (eTst f) σ H Q) : t σ H fun x H1 => ∃ k, x = .bl k ∧ Q k H1 := by
  obtain ⟨F, ι, S, env, st, d, S', e, q⟩ := q
  obtain ⟨x, S1, e1, e⟩ := Res.bind_ok e
  refine i σ H _ ⟨F, ι, S, env, st, x, S1, e1, fun v1 c1 s1 o1 r1 => ?_⟩
  split at e
  · cases e
    exact ⟨_, r1, q c1 s1 o1⟩
  · cases e
theorem t_cmp {op : CmpOp} {r : R2} {o : Op2} (ho : OpR X (compareOp op) r) (od : OpD K r o) (ha : PE X a (tB K B f)) (hb : PE X b (tB K B g)) (hm : behindInMarks op b = false) : PT X (.Compare a [op] [b] pos) (tT K B (eTst (eBin o f g))) :=
  (pt_cmpR ho ha hb hm).imp fun _ _ _ q => tst_of (fun _ _ _ q => bin_of od q) q
theorem t_val (h : PE X e (tD K B f)) (he : ∀ whole, isTrue e X.env whole = (do let v ← whole; standAt e.pos; holding [v] (truthy v)) := by intro _; rfl) : PT X e (tT K B (eTst f)) :=
  (pt_val h he).imp fun _ _ _ q => tst_of (fun _ _ _ q => q) q
/-- a value's truth -/
def truD (S : Sto) : D → Option Bool
  | .non => some false
  | .bl b => some b
  | .int i => some (i != 0)
  | .lst ds => some (!ds.isEmpty)
  | .tup ds => some (!ds.isEmpty)
  | .mu n => (S[n]?).map fun ds => !ds.isEmpty
  | _ => none
def eTru (f : EE) : ET := fun env S => (f env S).bind fun x S => match truD S x with
  | some b => .ok b S
  | none => .stuck
theorem RpAll.empty {F : Hp} {ι : List Addr} {ds : List D} {vs : List V} (h : RpAll K F ι ds vs) : (!vs.isEmpty) = !ds.isEmpty := by
  have e := h.len
  cases ds <;> cases vs <;> simp_all
theorem t_tru (h : PE X e (tB K B f)) (hK : X.K = K) (he : ∀ whole, isTrue e X.env whole = (do let v ← whole; standAt e.pos; holding [v] (truthy v)) := by intro _; rfl) : PT X e (tT K B (eTru f)) := by
  subst hK
  refine (pt_truth h he).imp fun σ H Q ⟨F, ι, S, env, st, d, S', e, q⟩ => ?_
  obtain ⟨x, S1, e1, e⟩ := Res.bind_ok e
  refine ⟨F, ι, S, env, st, x, S1, e1, fun v1 c1 s1 o1 r1 => ?_⟩
  split at e
  · rename_i k hk
    cases e
    refine ⟨_, ?_, q c1 s1 o1⟩
    cases x with
    | non => cases r1.non; cases hk; rfl
    | bl b => cases r1.bl; cases hk; rfl
    | int b => cases r1.int; cases hk; rfl
    | lst ds =>
      obtain ⟨p, vs, e1, h1, _, h2⟩ := r1.lst o1
      subst e1
      cases hk
      exact .inl ⟨vs, h1, h2.empty.symm⟩
    | tup ds =>
      obtain ⟨p, vs, e1, h1, _, h2⟩ := r1.tup o1
      subst e1
      cases hk
      exact .inr (.inl ⟨vs, h1, h2.empty.symm⟩)
    | mu n =>
      obtain ⟨ds, g1, g2⟩ := Option.map_eq_some_iff.mp hk
      obtain ⟨p, vs, e1, _, h1, _, h2⟩ := r1.mu o1 g1
      subst e1
      exact .inl ⟨vs, SqL.of h1, by rw [← g2]; exact h2.empty.symm⟩
    | str x => cases hk
    | ty x => cases hk
    | dct ks xs => cases hk
  · cases e
def eAndT (f g : ET) : ET := fun env S => (f env S).bind fun b S => if b = true then g env S else .ok false S
def eOrT (f g : ET) : ET := fun env S => (f env S).bind fun b S => if b = true then .ok true S else g env S
def eNotT (f : ET) : ET := fun env S => (f env S).bind fun b S => .ok (!b) S
variable {p q : ET} {rest : List Expr}
theorem t_not (ha : PT X a (tT K B p)) : PT X (.UnaryOp .Not a pos) (tT K B (eNotT p)) := (pt_not ha).imp fun σ H Q ⟨F, ι, S, env, st, d, S', e, q⟩ => by
  obtain ⟨x, S1, e1, e⟩ := Res.bind_ok e
  cases e
  exact ⟨F, ι, S, env, st, x, _, e1, fun c1 s1 o1 => q c1 s1 o1⟩
theorem w_and1 (ha : PT X a (tT K B p)) : PW X (.BoolOp .And [a] pos) (tT K B p) := pw_and1 ha
theorem w_or1 (ha : PT X a (tT K B p)) : PW X (.BoolOp .Or [a] pos) (tT K B p) := pw_or1 ha
theorem w_and (ha : PT X a (tT K B p)) (hb : PW X (.BoolOp .And (b :: rest) pos) (tT K B q)) : PW X (.BoolOp .And (a :: b :: rest) pos) (tT K B (eAndT p q)) := (pw_and ha hb).imp fun σ H Q ⟨F, ι, S, env, st, d, S', e, k⟩ => by
  obtain ⟨x, S1, e1, e⟩ := Res.bind_ok e
  refine ⟨F, ι, S, env, st, x, S1, e1, fun c1 s1 o1 => ?_⟩
  cases x with
  | true => exact iteT ⟨c1.F, c1.ι, S1, env, st.step s1 o1, d, S', e, fun c2 s2 o2 => k c2 (s1.trans s2) o2⟩
  | false => cases e; exact iteF (k c1 s1 o1)
theorem w_or (ha : PT X a (tT K B p)) (hb : PW X (.BoolOp .Or (b :: rest) pos) (tT K B q)) : PW X (.BoolOp .Or (a :: b :: rest) pos) (tT K B (eOrT p q)) := (pw_or ha hb).imp fun σ H Q ⟨F, ι, S, env, st, d, S', e, k⟩ => by
  obtain ⟨x, S1, e1, e⟩ := Res.bind_ok e
  refine ⟨F, ι, S, env, st, x, S1, e1, fun c1 s1 o1 => ?_⟩
  cases x with
  | true => cases e; exact iteT (k c1 s1 o1)
  | false => exact iteF ⟨c1.F, c1.ι, S1, env, st.step s1 o1, d, S', e, fun c2 s2 o2 => k c2 (s1.trans s2) o2⟩
/-! and, or, not as values of truth values -/
def eAnd (f g : EE) : EE := fun env S => (f env S).bind fun x S => match x with
  | .bl true => g env S
  | .bl false => .ok (.bl false) S
  | _ => .stuck
def eOr (f g : EE) : EE := fun env S => (f env S).bind fun x S => match x with
  | .bl true => .ok (.bl true) S
  | .bl false => g env S
  | _ => .stuck
def eNot (f : EE) : EE := fun env S => (f env S).bind fun x S => match x with
  | .bl b => .ok (.bl (!b)) S
  | _ => .stuck
theorem d_one {op} (ha : PE X a (tD K B f)) : PE X (.BoolOp op [a] pos) (tD K B f) := pe_one ha
theorem d_and (ha : PE X a (tD K B f)) (hb : PE X (.BoolOp .And (b :: rest) pos) (tD K B g)) : PE X (.BoolOp .And (a :: b :: rest) pos) (tD K B (eAnd f g)) := (pe_and ha hb).imp fun σ H Q ⟨F, ι, S, env, st, d, S', e, k⟩ => by
  obtain ⟨x, S1, e1, e⟩ := Res.bind_ok e
  refine ⟨F, ι, S, env, st, x, S1, e1, fun v1 c1 s1 o1 r1 => ?_⟩
  split at e
  · exact ⟨true, r1, iteT ⟨c1.F, c1.ι, S1, env, st.step s1 o1, d, S', e, fun v2 c2 s2 o2 r2 => k v2 c2 (s1.trans s2) o2 r2⟩⟩
  · cases e
    exact ⟨false, r1, iteF (k _ c1 s1 o1 rfl)⟩
  · cases e
theorem d_or (ha : PE X a (tD K B f)) (hb : PE X (.BoolOp .Or (b :: rest) pos) (tD K B g)) : PE X (.BoolOp .Or (a :: b :: rest) pos) (tD K B (eOr f g)) := (pe_or ha hb).imp fun σ H Q ⟨F, ι, S, env, st, d, S', e, k⟩ => by
  obtain ⟨x, S1, e1, e⟩ := Res.bind_ok e
  refine ⟨F, ι, S, env, st, x, S1, e1, fun v1 c1 s1 o1 r1 => ?_⟩
  split at e
  · cases e
    exact ⟨true, r1, iteT (k _ c1 s1 o1 rfl)⟩
  · exact ⟨false, r1, iteF ⟨c1.F, c1.ι, S1, env, st.step s1 o1, d, S', e, fun v2 c2 s2 o2 r2 => k v2 c2 (s1.trans s2) o2 r2⟩⟩
  · cases e
theorem d_not (ha : PE X a (tD K B f)) : PE X (.UnaryOp .Not a pos) (tD K B (eNot f)) := (pe_not ha).imp fun σ H Q ⟨F, ι, S, env, st, d, S', e, k⟩ => by
  obtain ⟨x, S1, e1, e⟩ := Res.bind_ok e
  refine ⟨F, ι, S, env, st, x, S1, e1, fun v1 c1 s1 o1 r1 => ?_⟩
  split at e
  · cases e
    exact ⟨_, r1, k _ c1 s1 o1 rfl⟩
  · cases e
def eIf (p : ET) (f g : EE) : EE := fun env S => (p env S).bind fun b S => if b = true then f env S else g env S
theorem d_if {c : Expr} (hc : PT X c (tT K B p)) (ha : PE X a (tD K B f)) (hb : PE X b (tD K B g)) : PE X (.IfExp c a b pos) (tD K B (eIf p f g)) := (pe_ifExp hc ha hb).imp fun σ H Q ⟨F, ι, S, env, st, d, S', e, k⟩ => by
  obtain ⟨x, S1, e1, e⟩ := Res.bind_ok e
  refine ⟨F, ι, S, env, st, x, S1, e1, fun c1 s1 o1 => ?_⟩
  cases x with
  | true => exact iteT ⟨c1.F, c1.ι, S1, env, st.step s1 o1, d, S', e, fun v2 c2 s2 o2 r2 => k v2 c2 (s1.trans s2) o2 r2⟩
  | false => exact iteF ⟨c1.F, c1.ι, S1, env, st.step s1 o1, d, S', e, fun v2 c2 s2 o2 r2 => k v2 c2 (s1.trans s2) o2 r2⟩
/-- a < b < c -/
def eChain (o o' : Op2) (f g h : EE) : EE := fun env S => (f env S).bind fun x S => (g env S).bind fun y S => (o x y S).bind fun k S => match k with
  | .bl true => (h env S).bind fun z S => o' y z S
  | .bl false => .ok (.bl false) S
  | _ => .stuck
theorem d_chain {op op' : CmpOp} {r r' : R2} {o o' : Op2} {c : Expr} (ho : OpR X (compareOp op) r) (ho' : OpR X (compareOp op') r') (od : OpD K r o) (od' : OpD K r' o') (ha : PE X a (tB K B f)) (hb : PE X b (tB K B g)) (hc : PE X c (tB K B h)) (hm : lastMarks [op, op'] [b, c] = false := by with_unfolding_all rfl) :
    PE X (.Compare a [op, op'] [b, c] pos) (tD K B (eChain o o' f g h)) := (pe_chain ho ho' ha hb hc (hm := hm)).imp fun σ H Q ⟨F, ι, S, env, st, d, S', e, k⟩ => by
  obtain ⟨x, S1, e1, e⟩ := Res.bind_ok e
  obtain ⟨y, S2, e2, e⟩ := Res.bind_ok e
  obtain ⟨z, S3, e3, e⟩ := Res.bind_ok e
  refine ⟨F, ι, S, env, st, x, S1, e1, fun v1 c1 s1 o1 r1 => ?_⟩
  refine ⟨c1.F, c1.ι, S1, env, st.step s1 o1, y, S2, e2, fun v2 c2 s2 o2 r2 => ?_⟩
  refine od B.H c2 S2 S3 v1 v2 x y z o2 (r1.step s2) r2 e3 _ fun v3 c3 s3 o3 r3 => ?_
  split at e
  · obtain ⟨z2, S4, e4, e⟩ := Res.bind_ok e
    refine ⟨true, r3, iteT ⟨c3.F, c3.ι, S3, env, st.step ((s1.trans s2).trans s3) o3, z2, S4, e4, fun v4 c4 s4 o4 r4 => ?_⟩⟩
    exact od' B.H c4 S4 S' v2 v4 y z2 d o4 ((r2.step s3).step s4) r4 e Q fun v5 c5 s5 o5 r5 => k v5 c5 ((((s1.trans s2).trans s3).trans s4).trans s5) o5 r5
  · cases e
    exact ⟨false, r3, iteF (k _ c3 ((s1.trans s2).trans s3) o3 rfl)⟩
  · cases e
theorem t_chain {op op' : CmpOp} {r r' : R2} {o o' : Op2} {c : Expr} (ho : OpR X (compareOp op) r) (ho' : OpR X (compareOp op') r') (od : OpD K r o) (od' : OpD K r' o') (ha : PE X a (tB K B f)) (hb : PE X b (tB K B g)) (hc : PE X c (tB K B h)) (hm : lastMarks [op, op'] [b, c] = false := by with_unfolding_all rfl) :
    PT X (.Compare a [op, op'] [b, c] pos) (tT K B (eTst (eChain o o' f g h))) := (pt_chain ho ho' ha hb hc (hm := hm)).imp fun _ _ _ q => tst_of (t := tChain r r' (tB K B f) (tB K B g) (tB K B h)) (fun σ H Q ⟨F, ι, S, env, st, d, S', e, k⟩ => by
  obtain ⟨x, S1, e1, e⟩ := Res.bind_ok e
  obtain ⟨y, S2, e2, e⟩ := Res.bind_ok e
  obtain ⟨z, S3, e3, e⟩ := Res.bind_ok e
  refine ⟨F, ι, S, env, st, x, S1, e1, fun v1 c1 s1 o1 r1 => ?_⟩
  refine ⟨c1.F, c1.ι, S1, env, st.step s1 o1, y, S2, e2, fun v2 c2 s2 o2 r2 => ?_⟩
  refine od B.H c2 S2 S3 v1 v2 x y z o2 (r1.step s2) r2 e3 _ fun v3 c3 s3 o3 r3 => ?_
  split at e
  · obtain ⟨z2, S4, e4, e⟩ := Res.bind_ok e
    refine ⟨true, r3, iteT ⟨c3.F, c3.ι, S3, env, st.step ((s1.trans s2).trans s3) o3, z2, S4, e4, fun v4 c4 s4 o4 r4 => ?_⟩⟩
    exact od' B.H c4 S4 S' v2 v4 y z2 d o4 ((r2.step s3).step s4) r4 e Q fun v5 c5 s5 o5 r5 => k v5 c5 ((((s1.trans s2).trans s3).trans s4).trans s5) o5 r5
  · cases e
    exact ⟨false, r3, iteF (k _ c3 ((s1.trans s2).trans s3) o3 rfl)⟩
  · cases e) q

/-! ### arguments, displays -/
def eNil : EL := fun _ S => .ok [] S
def eCons (f : EE) (g : EL) : EL := fun env S => (f env S).bind fun x S => (g env S).bind fun xs S => .ok (x :: xs) S
theorem RbAll.step {c c' : Bas} (s : Step c c') : ∀ {ds : List D} {vs : List V}, RbAll K B.H c ds vs → RbAll K B.H c' ds vs
  | [], _, h => h
  | d :: ds, _, ⟨v, r, h1, h2, h3⟩ => ⟨v, r, h1, h2.step s, RbAll.step s h3⟩
theorem a_nil : PA X [] (tA K B eNil) := pa_nil.imp fun σ H Q ⟨F, ι, S, env, st, d, S', e, k⟩ => by
  cases e
  exact k [] _ (Step.refl _) st.ok rfl
theorem ab_nil : PA X [] (tAB K B eNil) := pa_nil.imp fun σ H Q ⟨F, ι, S, env, st, d, S', e, k⟩ => by
  cases e
  exact k [] _ (Step.refl _) st.ok rfl
variable {l : EL}
theorem a_cons (ha : PE X e (tD K B f)) (hr : PA X es (tA K B l)) (hs : starEach (e :: es) X.env = (false, eval e X.env) :: starEach es X.env := by rfl) : PA X (e :: es) (tA K B (eCons f l)) := (pa_cons ha hr hs).imp fun σ H Q ⟨F, ι, S, env, st, d, S', e, k⟩ => by
  obtain ⟨x, S1, e1, e⟩ := Res.bind_ok e
  obtain ⟨y, S2, e2, e⟩ := Res.bind_ok e
  cases e
  refine ⟨F, ι, S, env, st, x, S1, e1, fun v1 c1 s1 o1 r1 => ?_⟩
  refine ⟨c1.F, c1.ι, S1, env, st.step s1 o1, y, _, e2, fun v2 c2 s2 o2 r2 => ?_⟩
  exact k _ c2 (s1.trans s2) o2 ⟨v1, v2, rfl, s2.rp r1, r2⟩
theorem ab_cons (ha : PE X e (tB K B f)) (hr : PA X es (tAB K B l)) (hs : starEach (e :: es) X.env = (false, eval e X.env) :: starEach es X.env := by rfl) : PA X (e :: es) (tAB K B (eCons f l)) := (pa_cons ha hr hs).imp fun σ H Q ⟨F, ι, S, env, st, d, S', e, k⟩ => by
  obtain ⟨x, S1, e1, e⟩ := Res.bind_ok e
  obtain ⟨y, S2, e2, e⟩ := Res.bind_ok e
  cases e
  refine ⟨F, ι, S, env, st, x, S1, e1, fun v1 c1 s1 o1 r1 => ?_⟩
  refine ⟨c1.F, c1.ι, S1, env, st.step s1 o1, y, _, e2, fun v2 c2 s2 o2 r2 => ?_⟩
  exact k _ c2 (s1.trans s2) o2 ⟨v1, v2, rfl, r1.step s2, r2⟩
/-- a new list at p -/
theorem new_lst {c : Bas} {S : Sto} {p : Addr} {ds : List D} {vs : List V} (ok : Sok K c S) (hp : c.H p = none) (hl : vs.length ≤ sizeLine) (r : RpAll K c.F c.ι ds vs) :
    Step c ⟨c.F, c.ι, upd c.H p (.lst vs)⟩ ∧ Sok K ⟨c.F, c.ι, upd c.H p (.lst vs)⟩ S ∧ NewAt K c ⟨c.F, c.ι, upd c.H p (.lst vs)⟩ ds (.ref p) := by
  have hF : c.F p = none := by
    cases q : c.F p with
    | none => rfl
    | some o => rw [ok.f p o q] at hp; cases hp
  have hι : p ∉ c.ι := fun hm => by
    obtain ⟨n, hn, e⟩ := List.mem_iff_getElem.mp hm
    have hn' : n < S.length := by rw [← ok.len]; exact hn
    obtain ⟨ws, h1, _⟩ := ok.s n p S[n] (by rw [List.getElem?_eq_getElem hn, e]) (List.getElem?_eq_getElem hn')
    rw [hp] at h1; cases h1
  have kp : ∀ a o, c.H a = some o → upd c.H p (.lst vs) a = some o := fun a o e => by
    rw [upd_ne (ne_of_none e hp)]
    exact e
  refine ⟨⟨Same.refl _, fun _ _ h => .inl h, fun a o e _ _ => kp a o e, fun a n => ?_, List.prefix_rfl, fun _ h => .inl h⟩, ⟨fun a o e => kp a o (ok.f a o e), ok.nd, ok.len, ok.fi, fun n a es h1 h2 => ?_⟩, ⟨p, vs, rfl, hp, upd_same, hl, r, hF, hι⟩⟩
  · cases q : c.H a with
    | none => exact absurd q n
    | some o =>
      show upd c.H p (.lst vs) a ≠ none
      rw [kp a o q]
      exact fun z => by cases z
  · obtain ⟨ws, g1, g2, g3⟩ := ok.s n a es h1 h2
    exact ⟨ws, kp _ _ g1, g2, g3⟩
/-- a new tuple at p, data at once -/
theorem new_tup {c : Bas} {S : Sto} {p : Addr} {ds : List D} {vs : List V} (ok : Sok K c S) (hp : c.H p = none) (hl : vs.length ≤ sizeLine) (r : RpAll K c.F c.ι ds vs) :
    Step c ⟨upd c.F p (.tup vs), c.ι, upd c.H p (.tup vs)⟩ ∧ Sok K ⟨upd c.F p (.tup vs), c.ι, upd c.H p (.tup vs)⟩ S ∧ Rp K (upd c.F p (.tup vs)) c.ι (.tup ds) (.ref p) := by
  have hF : c.F p = none := by
    cases q : c.F p with
    | none => rfl
    | some o => rw [ok.f p o q] at hp; cases hp
  have hι : p ∉ c.ι := fun hm => by
    obtain ⟨n, hn, e⟩ := List.mem_iff_getElem.mp hm
    have hn' : n < S.length := by rw [← ok.len]; exact hn
    obtain ⟨ws, h1, _⟩ := ok.s n p S[n] (by rw [List.getElem?_eq_getElem hn, e]) (List.getElem?_eq_getElem hn')
    rw [hp] at h1; cases h1
  have kp : ∀ a o, c.H a = some o → upd c.H p (.tup vs) a = some o := fun a o e => by
    rw [upd_ne (ne_of_none e hp)]
    exact e
  have kF : Same c.F (upd c.F p (.tup vs)) := fun a o e => by
    rw [upd_ne (ne_of_none e hF)]
    exact e
  refine ⟨⟨kF, fun a o e => ?_, fun a o e _ _ => kp a o e, fun a n => ?_, List.prefix_rfl, fun _ h => .inl h⟩, ⟨fun a o e => ?_, ok.nd, ok.len, fun a ha => ?_, fun n a es h1 h2 => ?_⟩, ⟨p, vs, rfl, SqT.of upd_same, hl, RpAll.mono kF List.prefix_rfl _ _ r⟩⟩
  · by_cases hb : a = p
    · subst hb; exact .inr hp
    · have e' : upd c.F p (.tup vs) a = some o := e
      rw [upd_ne hb] at e'
      exact .inl e'
  · cases q : c.H a with
    | none => exact absurd q n
    | some o =>
      show upd c.H p (.tup vs) a ≠ none
      rw [kp a o q]
      exact fun z => by cases z
  · have e' : upd c.F p (.tup vs) a = some o := e
    by_cases hb : a = p
    · subst hb
      rw [upd_same] at e'
      rw [← e']
      exact upd_same
    · rw [upd_ne hb] at e'
      exact kp a o (ok.f a o e')
  · show upd c.F p (.tup vs) a = none
    rw [upd_ne (fun z => hι (by rw [← z]; exact ha))]
    exact ok.fi a ha
  · obtain ⟨ws, g1, g2, g3⟩ := ok.s n a es h1 h2
    exact ⟨ws, kp _ _ g1, g2, RpAll.mono kF List.prefix_rfl _ _ g3⟩
def eTup (l : EL) : EE := fun env S => (l env S).bind fun xs S => if xs.length ≤ 1000 then .ok (.tup xs) S else .stuck
def eDsp (l : EL) : EL := fun env S => (l env S).bind fun xs S => if xs.length ≤ 1000 then .ok xs S else .stuck
theorem sz1000 {n : Nat} (h : n ≤ 1000) : n ≤ sizeLine := Nat.le_trans h (by decide)
theorem d_tup {x1} (ha : PA X es (tA K B l)) : PE X (.Tuple es x1 pos) (tD K B (eTup l)) := (pe_tup ha).imp fun σ H Q ⟨F, ι, S, env, st, d, S', e, k⟩ => by
  obtain ⟨xs, S1, e1, e⟩ := Res.bind_ok e
  refine ⟨F, ι, S, env, st, xs, S1, e1, fun vs c1 s1 o1 r1 => ?_⟩
  split at e
  · rename_i hz
    cases e
    have hl : vs.length ≤ sizeLine := by rw [r1.len]; exact sz1000 hz
    refine ⟨hl, fun p hp => ?_⟩
    obtain ⟨s2, o2, r2⟩ := new_tup o1 hp hl r1
    exact k _ ⟨_, _, _⟩ (s1.trans s2) o2 r2
  · cases e
theorem n_lst (ha : PA X es (tA K B l)) : PE X (.List es pos) (tN K B (eDsp l)) := (pe_lst ha).imp fun σ H Q ⟨F, ι, S, env, st, d, S', e, k⟩ => by
  obtain ⟨xs, S1, e1, e⟩ := Res.bind_ok e
  refine ⟨F, ι, S, env, st, xs, S1, e1, fun vs c1 s1 o1 r1 => ?_⟩
  split at e
  · rename_i hz
    cases e
    have hl : vs.length ≤ sizeLine := by rw [r1.len]; exact sz1000 hz
    refine ⟨hl, fun p hp => ?_⟩
    obtain ⟨s2, o2, a, ws, g1, g2, g3⟩ := new_lst o1 hp hl r1
    have nH : (Bas.mk F ι H).H a = none := by
      cases q : (Bas.mk F ι H).H a with
      | none => rfl
      | some o => exact absurd g2 (s1.dom a (by rw [q]; exact fun z => by cases z))
    exact k _ ⟨_, _, _⟩ (s1.trans s2) o2 ⟨a, ws, g1, nH, g3⟩
  · cases e
end
end DL

/-! DL3: statements, targets, loops, comprehensions, defs. -/
namespace DL
open PySem PySem.Spec PyProof.Rows L2

/-! ### places that nobody else knows -/
def LAt (c : Bas) (a : Addr) (o : HO) : Prop := c.H a = some o ∧ c.F a = none ∧ a ∉ c.ι
theorem LAt.step {c c' : Bas} {a : Addr} {xs : List V} (h : LAt c a (.lst xs)) (s : Step c c') : LAt c' a (.lst xs) := by
  obtain ⟨h1, h3, h4⟩ := h
  refine ⟨s.fr a _ h1 h4 (fun ps z => by cases z), ?_, fun hm => ?_⟩
  · cases q : c'.F a with
    | none => rfl
    | some o =>
      rcases s.grow a o q with r | r
      · rw [h3] at r; cases r
      · rw [h1] at r; cases r
  · rcases s.new a hm with r | r
    · exact h4 r
    · rw [h1] at r; cases r
/-- a place that was new changes -/
theorem Step.upd_new {c c' : Bas} {a : Addr} {o : HO} (s : Step c c') (h : c.H a = none) : Step c ⟨c'.F, c'.ι, upd c'.H a o⟩ where
  same := s.same
  grow := s.grow
  fr := fun b u e n t => by
    show upd c'.H a o b = some u
    rw [upd_ne (ne_of_none e h)]
    exact s.fr b u e n t
  dom := fun b n => by
    by_cases hb : b = a
    · subst hb; exact absurd h n
    · show upd c'.H a o b ≠ none
      rw [upd_ne hb]
      exact s.dom b n
  pre := s.pre
  new := s.new
theorem Sok.upd {K : PySem.W.Frag} {c : Bas} {S : Sto} {a : Addr} {o : HO} (ok : Sok K c S) (h1 : c.F a = none) (h2 : a ∉ c.ι) : Sok K ⟨c.F, c.ι, upd c.H a o⟩ S where
  f := fun b u e => by
    show L2.upd c.H a o b = some u
    rw [upd_ne (ne_of_none e h1)]
    exact ok.f b u e
  nd := ok.nd
  len := ok.len
  fi := ok.fi
  s := fun n b ds e1 e2 => by
    obtain ⟨vs, g1, g2, g3⟩ := ok.s n b ds e1 e2
    refine ⟨vs, ?_, g2, g3⟩
    show L2.upd c.H a o b = some _
    rw [upd_ne (fun z => h2 (by rw [← z]; exact List.mem_of_getElem? e1))]
    exact g1

/-! ### environments -/
theorem Eok.set_sh {K : PySem.W.Frag} {B : Hp} {c : Bas} {σ : St} {env : Env} (h : Eok K B c σ env) (i : Nat) {d : D} {v : V} (r : Rp K c.F c.ι d v) : Eok K B c (σ.set i (some v)) (env.set i (some (.sh d))) where
  len := by rw [List.length_set, List.length_set]; exact h.len
  at_ := fun j x e => by
    by_cases hj : i = j
    · subst hj
      have hl : i < env.length := by
        have := (List.getElem?_eq_some_iff.mp e).1
        rw [List.length_set] at this
        exact this
      rw [List.getElem?_set_self hl] at e
      cases e
      exact ⟨v, List.getElem?_set_self (by rw [← h.len]; exact hl), r⟩
    · rw [List.getElem?_set_ne hj] at e ⊢
      exact h.at_ j x e
  inj := fun j k ds es e1 e2 hjk => by
    have hj : i ≠ j := fun z => by
      subst z
      have hl : i < env.length := by
        have := (List.getElem?_eq_some_iff.mp e1).1
        rw [List.length_set] at this
        exact this
      rw [List.getElem?_set_self hl] at e1
      cases e1
    have hk : i ≠ k := fun z => by
      subst z
      have hl : i < env.length := by
        have := (List.getElem?_eq_some_iff.mp e2).1
        rw [List.length_set] at this
        exact this
      rw [List.getElem?_set_self hl] at e2
      cases e2
    rw [List.getElem?_set_ne hj] at e1 ⊢
    rw [List.getElem?_set_ne hk] at e2 ⊢
    exact h.inj j k ds es e1 e2 hjk
/-- a name gets a list of its own, which no other name has -/
theorem Eok.set_own {K : PySem.W.Frag} {B : Hp} {c : Bas} {σ : St} {env : Env} (h : Eok K B c σ env) (i : Nat) {ds : List D} {v : V} (r : OwnAt K B c ds v) (hn : ∀ j es, j ≠ i → env[j]? = some (some (.own es)) → σ[j]? ≠ some (some v)) : Eok K B c (σ.set i (some v)) (env.set i (some (.own ds))) where
  len := by rw [List.length_set, List.length_set]; exact h.len
  at_ := fun j x e => by
    by_cases hj : i = j
    · subst hj
      have hl : i < env.length := by
        have := (List.getElem?_eq_some_iff.mp e).1
        rw [List.length_set] at this
        exact this
      rw [List.getElem?_set_self hl] at e
      cases e
      exact ⟨v, List.getElem?_set_self (by rw [← h.len]; exact hl), r⟩
    · rw [List.getElem?_set_ne hj] at e ⊢
      exact h.at_ j x e
  inj := fun j k ds es e1 e2 hjk => by
    have hlj : j < env.length := by
      have := (List.getElem?_eq_some_iff.mp e1).1
      rw [List.length_set] at this
      exact this
    have hlk : k < env.length := by
      have := (List.getElem?_eq_some_iff.mp e2).1
      rw [List.length_set] at this
      exact this
    by_cases hj : i = j
    · subst hj
      rw [List.getElem?_set_self (by rw [← h.len]; exact hlj), List.getElem?_set_ne hjk]
      rw [List.getElem?_set_ne hjk] at e2
      exact fun z => hn k _ (fun z => hjk z.symm) e2 z.symm
    · by_cases hk : i = k
      · subst hk
        rw [List.getElem?_set_self (show i < σ.length by rw [← h.len]; exact hlk), List.getElem?_set_ne hj]
        rw [List.getElem?_set_ne hj] at e1
        exact hn j _ hjk e1
      · rw [List.getElem?_set_ne hj] at e1 ⊢
        rw [List.getElem?_set_ne hk] at e2 ⊢
        exact h.inj j k _ _ e1 e2 hjk
def wipeE (env : Env) : List Nat → Env
  | [] => env
  | v :: vs => (wipeE env vs).set v none
theorem Eok.set_none {K : PySem.W.Frag} {B : Hp} {c : Bas} {σ : St} {env : Env} (h : Eok K B c σ env) (i : Nat) : Eok K B c (σ.set i none) (env.set i none) where
  len := by rw [List.length_set, List.length_set]; exact h.len
  at_ := fun j x e => by
    by_cases hj : i = j
    · subst hj
      have hl : i < env.length := by
        have := (List.getElem?_eq_some_iff.mp e).1
        rw [List.length_set] at this
        exact this
      rw [List.getElem?_set_self hl] at e
      cases e
    · rw [List.getElem?_set_ne hj] at e ⊢
      exact h.at_ j x e
  inj := fun j k ds es e1 e2 hjk => by
    have hj : i ≠ j := fun z => by
      subst z
      have hl : i < env.length := by
        have := (List.getElem?_eq_some_iff.mp e1).1
        rw [List.length_set] at this
        exact this
      rw [List.getElem?_set_self hl] at e1
      cases e1
    have hk : i ≠ k := fun z => by
      subst z
      have hl : i < env.length := by
        have := (List.getElem?_eq_some_iff.mp e2).1
        rw [List.length_set] at this
        exact this
      rw [List.getElem?_set_self hl] at e2
      cases e2
    rw [List.getElem?_set_ne hj] at e1 ⊢
    rw [List.getElem?_set_ne hk] at e2 ⊢
    exact h.inj j k ds es e1 e2 hjk
theorem Eok.wipe {K : PySem.W.Frag} {B : Hp} {c : Bas} {σ : St} {env : Env} (h : Eok K B c σ env) : ∀ vs : List Nat, Eok K B c (L2.wipe σ vs) (wipeE env vs)
  | [] => h
  | v :: vs => (Eok.wipe h vs).set_none v
theorem wipe_get {σ : St} {j : Nat} : ∀ {vs : List Nat}, (wipe σ vs)[j]? = if j < σ.length ∧ j ∈ vs then some none else σ[j]?
  | [] => by simp [wipe]
  | v :: vs => by
    show ((wipe σ vs).set v none)[j]? = _
    by_cases hj : v = j
    · subst hj
      by_cases hl : v < σ.length
      · rw [List.getElem?_set_self (by rw [wipe_length]; exact hl), if_pos ⟨hl, List.mem_cons_self⟩]
      · rw [if_neg (fun z => hl z.1), List.getElem?_eq_none (by rw [List.length_set, wipe_length]; omega), List.getElem?_eq_none (by omega)]
    · rw [List.getElem?_set_ne hj, wipe_get]
      by_cases hl : j < σ.length ∧ j ∈ vs
      · rw [if_pos hl, if_pos ⟨hl.1, List.mem_cons_of_mem _ hl.2⟩]
      · rw [if_neg hl, if_neg (fun z => hl ⟨z.1, by
          rcases List.mem_cons.mp z.2 with r | r
          · exact absurd r.symm hj
          · exact r⟩)]
theorem wipe_eq {σ σ' : St} {vs : List Nat} (hl : σ'.length = σ.length) (h : ∀ j, j ∉ vs → σ'[j]? = σ[j]?) : wipe σ' vs = wipe σ vs := by
  refine List.ext_getElem? fun j => ?_
  rw [wipe_get, wipe_get, hl]
  by_cases hj : j ∈ vs
  · by_cases hk : j < σ.length
    · rw [if_pos ⟨hk, hj⟩, if_pos ⟨hk, hj⟩]
    · rw [if_neg (fun z => hk z.1), if_neg (fun z => hk z.1), List.getElem?_eq_none (by omega), List.getElem?_eq_none (by omega)]
  · rw [if_neg (fun z => hj z.2), if_neg (fun z => hj z.2), h j hj]
theorem wipe_idem {σ : St} {vs : List Nat} : wipe (wipe σ vs) vs = wipe σ vs := wipe_eq (σ := σ) (wipe_length _ _) fun j hj => by
  rw [wipe_get, if_neg (fun z => hj z.2)]

/-! ### targets -/
abbrev GE := D → Env → Option Env
/-- ts: the places that are stored -/
def tG (K : PySem.W.Frag) (B : Bas) (g : GE) (ts : List Nat) : TG := fun v σ H Q => ∃ F ι S env d env', Stt K B ⟨F, ι, H⟩ S σ env ∧ Rp K F ι d v ∧ g d env = some env' ∧
  ∀ σ', Stt K B ⟨F, ι, H⟩ S σ' env' → σ'.length = σ.length → (∀ j, j ∉ ts → σ'[j]? = σ[j]?) → Q σ' H
def tGs (K : PySem.W.Frag) (B : Bas) (g : List D → Env → Option Env) (ts : List Nat) : TGs := fun vs σ H Q => ∃ F ι S env ds env', Stt K B ⟨F, ι, H⟩ S σ env ∧ RpAll K F ι ds vs ∧ g ds env = some env' ∧
  ∀ σ', Stt K B ⟨F, ι, H⟩ S σ' env' → σ'.length = σ.length → (∀ j, j ∉ ts → σ'[j]? = σ[j]?) → Q σ' H
theorem _root_.L2.PG.imp {X : Cx} {tg : Expr} {t t' : TG} (h : PG X tg t) (i : ∀ v σ H Q, t' v σ H Q → t v σ H Q) : PG X tg t' := ⟨fun pins s σ H v u Q I r q => h.run pins s σ H v u Q I r (i v σ H Q q)⟩
theorem _root_.L2.PG.or {X : Cx} {tg : Expr} {t t' : TG} (h : PG X tg t) (h' : PG X tg t') : PG X tg (fun v σ H Q => t v σ H Q ∨ t' v σ H Q) := ⟨fun pins s σ H v u Q I r q => q.elim (h.run pins s σ H v u Q I r) (h'.run pins s σ H v u Q I r)⟩
theorem _root_.L2.PGs.imp {X : Cx} {tg : List Expr} {t t' : TGs} (h : PGs X tg t) (i : ∀ v σ H Q, t' v σ H Q → t v σ H Q) : PGs X tg t' := ⟨fun pins s σ H v u Q I r q => h.run pins s σ H v u Q I r (i v σ H Q q)⟩
def gN (i : Nat) : GE := fun d env => some (env.set i (some (.sh d)))
def gsNil : List D → Env → Option Env := fun ds env => match ds with
  | [] => some env
  | _ => none
def gsCons (g : GE) (gs : List D → Env → Option Env) : List D → Env → Option Env := fun ds env => match ds with
  | d :: r => (g d env).bind (gs r)
  | [] => none
/-- a, b = a tuple or a list -/
def gTp (n : Nat) (gs : List D → Env → Option Env) : GE := fun d env => match d with
  | .tup ds => if ds.length = n then gs ds env else none
  | .lst ds => if ds.length = n then gs ds env else none
  | _ => none
section
variable {X : Cx} {K : PySem.W.Frag} {B : Bas} {pos : Pos} {e : Expr} {es : List Expr}
theorem g_name {t : TG} {tg : Expr} {i : Nat} (h : PG X tg (gName i)) : PG X tg (tG K B (gN i) [i]) := h.imp fun v σ H Q ⟨F, ι, S, env, d, env', st, r, e, k⟩ => by
  cases e
  exact k _ ⟨st.ok, st.env.set_sh i r, st.st⟩ (List.length_set) fun j hj => List.getElem?_set_ne (fun z => hj (by rw [z]; exact List.mem_singleton.mpr rfl))
theorem gs_nil : PGs X [] (tGs K B gsNil []) := pgs_nil.imp fun v σ H Q ⟨F, ι, S, env, ds, env', st, r, e, k⟩ => by
  cases ds with
  | nil => cases e; exact ⟨r, k σ st rfl fun _ _ => rfl⟩
  | cons d ds => cases e
theorem gs_cons {g : GE} {gs : List D → Env → Option Env} {ts us : List Nat} (h : PG X e (tG K B g ts)) (hs : PGs X es (tGs K B gs us)) (ha : (assignEach (e :: es) X.env).map (·.2) = assign e X.env :: (assignEach es X.env).map (·.2) := by rfl) :
    PGs X (e :: es) (tGs K B (gsCons g gs) (ts ++ us)) := (pgs_cons h hs ha).imp fun v σ H Q ⟨F, ι, S, env, ds, env', st, r, e, k⟩ => by
  cases ds with
  | nil => cases e
  | cons d ds =>
    obtain ⟨v1, r1, e1, h1, h2⟩ := r
    obtain ⟨env1, g1, g2⟩ := Option.bind_eq_some_iff.mp e
    refine ⟨v1, r1, e1, F, ι, S, env, d, env1, st, h1, g1, fun σ1 st1 l1 f1 => ?_⟩
    exact ⟨F, ι, S, env1, ds, env', st1, h2, g2, fun σ2 st2 l2 f2 => k σ2 st2 (l2.trans l1) fun j hj => (f2 j fun z => hj (List.mem_append_right _ z)).trans (f1 j fun z => hj (List.mem_append_left _ z))⟩
theorem g_tup {k n : Nat} {gs : List D → Env → Option Env} {ts : List Nat} (hK : X.K = K) (hc : X.calm = true) (h : PGs X es (tGs K B gs ts))
    (hn : (assignEach es X.env).length = n := by rfl) (hst : (assignEach es X.env).findIdx? (·.1) = none := by rfl) : PG X (.Tuple es k pos) (tG K B (gTp n gs) ts) := by
  subst hK
  refine ((pg_tup hc h hn hst).or (pg_unl hc h hn hst)).imp fun v σ H Q ⟨F, ι, S, env, d, env', st, r, e, q⟩ => ?_
  cases d with
  | tup ds =>
    obtain ⟨a, vs, e1, h1, _, h2⟩ := r
    have e' : (if ds.length = n then gs ds env else none) = some env' := e
    split at e'
    · rename_i hl
      exact .inl ⟨a, vs, e1, same_t st.ok.f h1, by rw [h2.len, hl], F, ι, S, env, ds, env', st, h2, e', q⟩
    · cases e'
  | lst ds =>
    obtain ⟨a, vs, e1, h1, _, h2⟩ := r
    have e' : (if ds.length = n then gs ds env else none) = some env' := e
    split at e'
    · rename_i hl
      exact .inr ⟨a, vs, e1, st.ok.f.seq h1, by rw [h2.len, hl], F, ι, S, env, ds, env', st, h2, e', q⟩
    · cases e'
  | non => cases e
  | bl b => cases e
  | int b => cases e
  | str b => cases e
  | mu b => cases e
  | ty b => cases e
  | dct ks xs => cases e
end

/-! ### statements -/
/-- what is known behind some statements -/
structure Adv (c c' : Bas) : Prop where
  same : Same c.F c'.F
  pre : c.ι <+: c'.ι
theorem Adv.refl (c : Bas) : Adv c c := ⟨Same.refl _, List.prefix_rfl⟩
theorem Adv.trans {a b c : Bas} (h : Adv a b) (q : Adv b c) : Adv a c := ⟨h.same.trans q.same, h.pre.trans q.pre⟩
theorem Step.adv {a b : Bas} (h : Step a b) : Adv a b := ⟨h.same, h.pre⟩
theorem Adv.rp {K : PySem.W.Frag} {c c' : Bas} (h : Adv c c') {d : D} {v : V} (r : Rp K c.F c.ι d v) : Rp K c'.F c'.ι d v := Rp.mono h.same h.pre d v r
theorem Adv.rpAll {K : PySem.W.Frag} {c c' : Bas} (h : Adv c c') {d : List D} {v : List V} (r : RpAll K c.F c.ι d v) : RpAll K c'.F c'.ι d v := RpAll.mono h.same h.pre d v r
def outK (K : PySem.W.Frag) (B c : Bas) (S' : Sto) (E : Ends) : Out → Prop
  | .nx env' => ∀ σ' c', Stt K B c' S' σ' env' → Adv c c' → E.nx σ' c'.H
  | .rt d => ∀ v c', Step B c' → Sok K c' S' → Rp K c'.F c'.ι d v → E.rt v c'.H
  | .bk env' => ∀ σ' c', Stt K B c' S' σ' env' → Adv c c' → E.bk σ' c'.H
  | .ct env' => ∀ σ' c', Stt K B c' S' σ' env' → Adv c c' → E.ct σ' c'.H
theorem outK.adv {K : PySem.W.Frag} {B c c1 : Bas} {S' : Sto} {E : Ends} (a : Adv c c1) : ∀ {o : Out}, outK K B c S' E o → outK K B c1 S' E o
  | .nx _, h => fun σ' c' st s => h σ' c' st (a.trans s)
  | .rt _, h => h
  | .bk _, h => fun σ' c' st s => h σ' c' st (a.trans s)
  | .ct _, h => fun σ' c' st s => h σ' c' st (a.trans s)
def tK (K : PySem.W.Frag) (B : Bas) (f : SS) : TS := fun E σ H => ∃ F ι S env, Stt K B ⟨F, ι, H⟩ S σ env ∧ ∃ o S', f env S = .ok o S' ∧ outK K B ⟨F, ι, H⟩ S' E o
def sNil : SS := fun env S => .ok (.nx env) S
def sSeq (f g : SS) : SS := fun env S => (f env S).bind fun o S => match o with
  | .nx env => g env S
  | o => .ok o S
def sSet (i : Nat) (f : EE) : SS := fun env S => (f env S).bind fun d S => .ok (.nx (env.set i (some (.sh d)))) S
def sNew (i : Nat) (f : EL) : SS := fun env S => (f env S).bind fun ds S => .ok (.nx (env.set i (some (.own ds)))) S
def sRet (f : EE) : SS := fun env S => (f env S).bind fun d S => .ok (.rt d) S
def sRetN : SS := fun _ S => .ok (.rt .non) S
def sIf (p : ET) (f g : SS) : SS := fun env S => (p env S).bind fun b S => if b = true then f env S else g env S
def sDrop (f : EE) : SS := fun env S => (f env S).bind fun _ S => .ok (.nx env) S
def sAsgT (g : GE) (f : EE) : SS := fun env S => (f env S).bind fun d S => match g d env with
  | some env' => .ok (.nx env') S
  | none => .stuck
/-- xs.append(e), xs a list of the name's own -/
def sApp (i : Nat) (f : EE) : SS := fun env S => (f env S).bind fun d S => match env[i]? with
  | some (some (.own ds)) => if ds.length < 1000000 then .ok (.nx (env.set i (some (.own (ds ++ [d]))))) S else .stuck
  | _ => .stuck
/-- a name's own list becomes data (nothing happens) -/
def sFrz (i : Nat) (g : SS) : SS := fun env S => match env[i]? with
  | some (some (.own ds)) => g (env.set i (some (.sh (.lst ds)))) S
  | _ => g env S
/-- o[k] = e, o a thing that changes -/
def sStore (f o k : EE) : SS := fun env S => (f env S).bind fun d S => (o env S).bind fun x S => (k env S).bind fun i S => match x, i with
  | .mu n, .int j => (match S[n]? with
    | some ds => (match ixN ds.length j with
      | some t => .ok (.nx env) (S.set n (ds.set t d))
      | none => .stuck)
    | none => .stuck)
  | _, _ => .stuck
theorem Stt.frz {K : PySem.W.Frag} {B c : Bas} {S : Sto} {σ : St} {env : Env} {i : Nat} {ds : List D} (st : Stt K B c S σ env) (h : env[i]? = some (some (.own ds))) :
    ∃ F', Adv c ⟨F', c.ι, c.H⟩ ∧ Stt K B ⟨F', c.ι, c.H⟩ S σ (env.set i (some (.sh (.lst ds)))) := by
  obtain ⟨v, hv, a, vs, e, h1, hl, h2, h3, h4, h5⟩ := st.env.at_ i _ h
  subst e
  have sm : Same c.F (upd c.F a (.lst vs)) := fun b o q => by
    rw [upd_ne (ne_of_none q h3)]
    exact q
  have ad : Adv c ⟨upd c.F a (.lst vs), c.ι, c.H⟩ := ⟨sm, List.prefix_rfl⟩
  refine ⟨upd c.F a (.lst vs), ad, ⟨⟨fun b o q => ?_, st.ok.nd, st.ok.len, fun b hb => ?_, fun n b es g1 g2 => ?_⟩, ⟨by rw [List.length_set]; exact st.env.len, fun j x e => ?_, fun j k es fs e1 e2 hjk => ?_⟩, ⟨st.st.same.trans sm, fun b o q => ?_, st.st.fr, st.st.dom, st.st.pre, st.st.new⟩⟩⟩
  · have q' : upd c.F a (.lst vs) b = some o := q
    by_cases hb : b = a
    · subst hb
      rw [upd_same] at q'
      rw [← q']
      exact h1
    · rw [upd_ne hb] at q'
      exact st.ok.f b o q'
  · show upd c.F a (.lst vs) b = none
    rw [upd_ne (fun z => h4 (by rw [← z]; exact hb))]
    exact st.ok.fi b hb
  · obtain ⟨ws, g3, g4, g5⟩ := st.ok.s n b es g1 g2
    exact ⟨ws, g3, g4, ad.rpAll g5⟩
  · by_cases hj : i = j
    · subst hj
      have hl' : i < env.length := (List.getElem?_eq_some_iff.mp h).1
      rw [List.getElem?_set_self hl'] at e
      cases e
      exact ⟨.ref a, hv, a, vs, rfl, SqL.of upd_same, hl, ad.rpAll h2⟩
    · rw [List.getElem?_set_ne hj] at e
      obtain ⟨w, g1, g2⟩ := st.env.at_ j x e
      refine ⟨w, g1, ?_⟩
      cases x with
      | sh d => exact ad.rp g2
      | own es =>
        obtain ⟨b, ws, e2, k1, k2, k3, k4, k5, k6⟩ := g2
        refine ⟨b, ws, e2, k1, k2, ad.rpAll k3, ?_, k5, k6⟩
        have hba : b ≠ a := fun z => st.env.inj i j ds es h e hj (by rw [hv, g1, e2, z])
        show upd c.F a (.lst vs) b = none
        rw [upd_ne hba]
        exact k4
  · have hj : i ≠ j := fun z => by
      subst z
      rw [List.getElem?_set_self ((List.getElem?_eq_some_iff.mp h).1)] at e1
      cases e1
    have hk : i ≠ k := fun z => by
      subst z
      rw [List.getElem?_set_self ((List.getElem?_eq_some_iff.mp h).1)] at e2
      cases e2
    rw [List.getElem?_set_ne hj] at e1
    rw [List.getElem?_set_ne hk] at e2
    exact st.env.inj j k es fs e1 e2 hjk
  · have q' : upd c.F a (.lst vs) b = some o := q
    by_cases hb : b = a
    · subst hb; exact .inr h5
    · rw [upd_ne hb] at q'
      exact st.st.grow b o q'
section
variable {X : Cx} {K : PySem.W.Frag} {B : Bas} {pos : Pos} {e : Expr} {es : List Expr} {f o k : EE} {l : EL} {p : ET} {s t : SS} {st : Stmt} {sts : List Stmt}
theorem ss_nil : PSs X [] (tK K B sNil) := pss_nil.imp fun E σ H ⟨F, ι, S, env, st, o, S', e, q⟩ => by
  cases e
  exact q σ _ st (Adv.refl _)
theorem ss_cons (h1 : PS X st (tK K B s)) (h2 : PSs X sts (tK K B t)) : PSs X (st :: sts) (tK K B (sSeq s t)) := (pss_cons h1 h2).imp fun E σ H ⟨F, ι, S, env, st, o, S', e, q⟩ => by
  obtain ⟨o1, S1, e1, e⟩ := Res.bind_ok e
  refine ⟨F, ι, S, env, st, o1, S1, e1, ?_⟩
  cases o1 with
  | nx env1 => exact fun σ1 c1 st1 s1 => ⟨c1.F, c1.ι, S1, env1, st1, o, S', e, outK.adv s1 q⟩
  | rt d => cases e; exact q
  | bk d => cases e; exact q
  | ct d => cases e; exact q
theorem ss_one (h1 : PS X st (tK K B s)) : PSs X [st] (tK K B s) := pss_one h1
theorem ss_frz {i : Nat} (h : PSs X sts (tK K B s)) : PSs X sts (tK K B (sFrz i s)) := h.imp fun E σ H ⟨F, ι, S, env, st, o, S', e, q⟩ => by
  unfold sFrz at e
  split at e
  · rename_i ds hi
    obtain ⟨F', ad, st'⟩ := st.frz hi
    exact ⟨F', ι, S, _, st', o, S', e, outK.adv ad q⟩
  · exact ⟨F, ι, S, env, st, o, S', e, q⟩
theorem s_set {i : Nat} (h : PS X st (tAsg (tD K B f) (gName i))) : PS X st (tK K B (sSet i f)) := h.imp fun E σ H ⟨F, ι, S, env, st, o, S', e, q⟩ => by
  obtain ⟨d, S1, e1, e⟩ := Res.bind_ok e
  cases e
  refine ⟨F, ι, S, env, st, d, _, e1, fun v c1 s1 o1 r1 => ?_⟩
  have st1 := st.step s1 o1
  exact q _ c1 ⟨st1.ok, st1.env.set_sh i r1, st1.st⟩ s1.adv
theorem NewAt.own {c c' b : Bas} {ds : List D} {v : V} (s : Step b c) (n : NewAt K c c' ds v) : OwnAt K b.H c' ds v := by
  obtain ⟨a, vs, e, h1, h2, h3, h4, h5, h6⟩ := n
  refine ⟨a, vs, e, h2, h3, h4, h5, h6, ?_⟩
  cases q : b.H a with
  | none => rfl
  | some o => exact absurd h1 (s.dom a (by rw [q]; exact fun z => by cases z))
theorem s_new {i : Nat} (h : PS X st (tAsg (tN K B l) (gName i))) : PS X st (tK K B (sNew i l)) := h.imp fun E σ H ⟨F, ι, S, env, st, o, S', e, q⟩ => by
  obtain ⟨d, S1, e1, e⟩ := Res.bind_ok e
  cases e
  refine ⟨F, ι, S, env, st, d, _, e1, fun v c1 s1 o1 n1 => ?_⟩
  have st1 := st.step s1 o1
  refine q _ c1 ⟨st1.ok, st1.env.set_own i (NewAt.own st.st n1) (fun j es hj ej z => ?_), st1.st⟩ s1.adv
  -- another name's list stood before
  obtain ⟨w, g1, a, ws, e2, g2, _⟩ := st.env.at_ j _ ej
  obtain ⟨a', vs', e3, n2, _⟩ := n1
  rw [g1, e2, e3] at z
  cases z
  rw [n2] at g2
  cases g2
theorem s_ret (h : PE X e (tD K B f)) : PS X (.Return (some e) pos) (tK K B (sRet f)) := (ps_ret h).imp fun E σ H ⟨F, ι, S, env, st, o, S', e, q⟩ => by
  obtain ⟨d, S1, e1, e⟩ := Res.bind_ok e
  cases e
  exact ⟨F, ι, S, env, st, d, _, e1, fun v c1 s1 o1 r1 => q v c1 (st.st.trans s1) o1 r1⟩
theorem s_retN : PS X (.Return none pos) (tK K B sRetN) := ps_retN.imp fun E σ H ⟨F, ι, S, env, st, o, S', e, q⟩ => by
  cases e
  exact q .non ⟨F, ι, H⟩ st.st st.ok rfl
theorem s_if {c : Expr} {a b : List Stmt} (hc : PT X c (tT K B p)) (ha : PSs X a (tK K B s)) (hb : PSs X b (tK K B t)) : PS X (.If c a b pos) (tK K B (sIf p s t)) := (ps_if hc ha hb).imp fun E σ H ⟨F, ι, S, env, st, o, S', e, q⟩ => by
  obtain ⟨d, S1, e1, e⟩ := Res.bind_ok e
  refine ⟨F, ι, S, env, st, d, S1, e1, fun c1 s1 o1 => ?_⟩
  cases d with
  | true => exact iteT ⟨c1.F, c1.ι, S1, env, st.step s1 o1, o, S', e, outK.adv s1.adv q⟩
  | false => exact iteF ⟨c1.F, c1.ι, S1, env, st.step s1 o1, o, S', e, outK.adv s1.adv q⟩
theorem s_drop (h : PE X e (tD K B f)) (hs : swapsWith e none pos.line X.env = pure false := by rfl) : PS X (.Expr e pos) (tK K B (sDrop f)) := (ps_expr h hs).imp fun E σ H ⟨F, ι, S, env, st, o, S', e, q⟩ => by
  obtain ⟨d, S1, e1, e⟩ := Res.bind_ok e
  cases e
  exact ⟨F, ι, S, env, st, d, _, e1, fun v c1 s1 o1 r1 => q σ c1 (st.step s1 o1) s1.adv⟩
theorem s_asgT {g : GE} {ts : List Nat} (h : PS X st (tAsg (tD K B f) (tG K B g ts))) : PS X st (tK K B (sAsgT g f)) := h.imp fun E σ H ⟨F, ι, S, env, st, o, S', e, q⟩ => by
  obtain ⟨d, S1, e1, e⟩ := Res.bind_ok e
  refine ⟨F, ι, S, env, st, d, S1, e1, fun v c1 s1 o1 r1 => ?_⟩
  split at e
  · rename_i env' he
    cases e
    exact ⟨c1.F, c1.ι, _, env, d, env', st.step s1 o1, r1, he, fun σ' st' _ _ => q σ' c1 st' s1.adv⟩
  · cases e
theorem sizeM {n : Nat} (h : n < 1000000) : n < sizeLine := Nat.lt_of_lt_of_le h (by decide)
theorem s_app {i : Nat} {x : Expr} {apos : Pos} (hK : X.K = K) (hx : PE X x (tVar i)) (h : PE X e (tD K B f)) (hs : starEach [e] X.env = (false, eval e X.env) :: starEach [] X.env := by rfl)
    (hp : PS X st (tDrop (tBM X.K "list" rAppend (tVar i) (tCons (tD K B f) tNil)))) : PS X st (tK K B (sApp i f)) := hp.imp fun E σ H ⟨F, ι, S, env, st, o, S', e, q⟩ => by
  subst hK
  obtain ⟨d, S1, e1, e⟩ := Res.bind_ok e
  split at e
  · rename_i ds hi
    split at e
    · rename_i hz
      cases e
      obtain ⟨v, hv, a, vs, ev, h1, hl, h2, h3, h4, h5⟩ := st.env.at_ i _ hi
      subst ev
      refine ⟨.ref a, hv, .inl ⟨rfl, _, SqL.of h1⟩, F, ι, S, env, st, d, _, e1, fun w c1 s1 o1 r1 => ?_⟩
      have st1 := st.step s1 o1
      have la : LAt c1 a (.lst vs) := LAt.step (c := ⟨F, ι, H⟩) ⟨h1, h3, h4⟩ s1
      have hlen : vs.length < sizeLine := by rw [h2.len]; exact sizeM hz
      refine ⟨a, vs, w, rfl, rfl, la.1, hlen, ?_⟩
      refine q σ ⟨c1.F, c1.ι, upd c1.H a (.lst (vs ++ [w]))⟩ ⟨st1.ok.upd la.2.1 la.2.2, ?_, st1.st.upd_new h5⟩ ⟨s1.same, s1.pre⟩
      -- the names' values
      have sok : ∀ (x : Slot) (j : Nat) (u : V), j ≠ i → env[j]? = some (some x) → σ[j]? = some (some u) → SlotOk X.K B.H c1 x u → SlotOk X.K B.H ⟨c1.F, c1.ι, upd c1.H a (.lst (vs ++ [w]))⟩ x u := fun x j u hj ej eu hx => by
        cases x with
        | sh d => exact hx
        | own es =>
          obtain ⟨b, ws, e2, k1, k2, k3, k4, k5, k6⟩ := hx
          refine ⟨b, ws, e2, ?_, k2, k3, k4, k5, k6⟩
          have hba : b ≠ a := fun z => st.env.inj i j ds es hi ej (fun z => hj z.symm) (by rw [hv, eu, e2, z])
          show upd c1.H a _ b = some _
          rw [upd_ne hba]
          exact k1
      refine ⟨by rw [List.length_set]; exact st1.env.len, fun j x ej => ?_, fun j j2 es fs e2 e3 hjk => ?_⟩
      · by_cases hj : i = j
        · subst hj
          rw [List.getElem?_set_self ((List.getElem?_eq_some_iff.mp hi).1)] at ej
          cases ej
          exact ⟨.ref a, hv, a, vs ++ [w], rfl, upd_same, by rw [List.length_append]; exact hlen, (s1.rpAll h2).snoc r1, la.2.1, la.2.2, h5⟩
        · rw [List.getElem?_set_ne hj] at ej
          obtain ⟨u, g1, g2⟩ := st1.env.at_ j x ej
          exact ⟨u, g1, sok x j u (fun z => hj z.symm) ej g1 g2⟩
      · have own_of : ∀ (j : Nat) (es : List D), (env.set i (some (.own (ds ++ [d]))))[j]? = some (some (.own es)) → ∃ es', env[j]? = some (some (.own es')) := fun j es ej => by
          by_cases hj : i = j
          · subst hj; exact ⟨ds, hi⟩
          · rw [List.getElem?_set_ne hj] at ej; exact ⟨es, ej⟩
        obtain ⟨es', g1⟩ := own_of j es e2
        obtain ⟨fs', g2⟩ := own_of j2 fs e3
        exact st.env.inj j j2 es' fs' g1 g2 hjk
    · cases e
  · cases e
theorem s_store {x i : Expr} {tpos : Pos} (hv : PE X e (tD K B f)) (ho : PE X x (tD K B o)) (hi : PE X i (tD K B k)) (hp : PS X st (tAsg (tD K B f) (gSub (tD K B o) (tD K B k) rSetL))) : PS X st (tK K B (sStore f o k)) := hp.imp fun E σ H ⟨F, ι, S, env, st, oo, S', e, q⟩ => by
  obtain ⟨d, S1, e1, e⟩ := Res.bind_ok e
  obtain ⟨y, S2, e2, e⟩ := Res.bind_ok e
  obtain ⟨z, S3, e3, e⟩ := Res.bind_ok e
  refine ⟨F, ι, S, env, st, d, S1, e1, fun v1 c1 s1 o1 r1 => ?_⟩
  refine ⟨c1.F, c1.ι, S1, env, st.step s1 o1, y, S2, e2, fun v2 c2 s2 o2 r2 => ?_⟩
  refine ⟨c2.F, c2.ι, S2, env, st.step (s1.trans s2) o2, z, S3, e3, fun v3 c3 s3 o3 r3 => ?_⟩
  split at e
  · rename_i n j _
    split at e
    · rename_i ds hS
      split at e
      · rename_i t ht
        cases e
        obtain ⟨a, ea, ha⟩ := s3.rp r2
        have hj : v3 = .int j := r3
        obtain ⟨vs, h1, hl, h2⟩ := o3.s n a ds ha hS
        refine ⟨a, vs, j, t, ea, hj, h1, by rw [h2.len]; exact ht, ?_⟩
        have sm := (s1.trans s2).trans s3
        have st3 := st.step sm o3
        have ham : a ∈ c3.ι := List.mem_of_getElem? ha
        -- the store with its new content
        have rd : Rp K c3.F c3.ι d v1 := s3.rp (s2.rp r1)
        have ok' : Sok K ⟨c3.F, c3.ι, upd c3.H a (.lst (vs.set t v1))⟩ (S3.set n (ds.set t d)) := by
          refine ⟨fun b u q => ?_, o3.nd, by rw [List.length_set]; exact o3.len, o3.fi, fun m b es g1 g2 => ?_⟩
          · have hb : b ≠ a := fun z => by
              subst z
              have := o3.fi b ham
              rw [show c3.F b = some u from q] at this
              cases this
            show upd c3.H a _ b = some u
            rw [upd_ne hb]
            exact o3.f b u q
          · by_cases hm : n = m
            · subst hm
              have hba : b = a := by
                have g1' : c3.ι[n]? = some b := g1
                rw [ha] at g1'
                exact (Option.some.inj g1').symm
              subst hba
              rw [List.getElem?_set_self ((List.getElem?_eq_some_iff.mp hS).1)] at g2
              cases g2
              exact ⟨_, upd_same, by rw [List.length_set]; exact hl, h2.set t rd⟩
            · rw [List.getElem?_set_ne hm] at g2
              obtain ⟨ws, k1, k2, k3⟩ := o3.s m b es g1 g2
              refine ⟨ws, ?_, k2, k3⟩
              have hba : b ≠ a := fun z => by
                subst z
                have n1 := (List.getElem?_eq_some_iff.mp ha)
                have n2 := (List.getElem?_eq_some_iff.mp (show c3.ι[m]? = some b from g1))
                exact hm ((List.getElem_inj o3.nd).mp (n1.2.trans n2.2.symm))
              show upd c3.H a _ b = some _
              rw [upd_ne hba]
              exact k1
        have nB : ∀ b u, B.H b = some u → b ∉ B.ι → b ≠ a := fun b u hb hn z => by
          subst z
          rcases st3.st.new b ham with r | r
          · exact hn r
          · rw [hb] at r; cases r
        refine q σ ⟨c3.F, c3.ι, upd c3.H a (.lst (vs.set t v1))⟩ ⟨ok', ⟨st3.env.len, fun j2 x ej => ?_, st3.env.inj⟩, ⟨st3.st.same, st3.st.grow, fun b u hb hn ht => ?_, fun b hb => ?_, st3.st.pre, st3.st.new⟩⟩ ⟨sm.same, sm.pre⟩
        · obtain ⟨u, g1, g2⟩ := st3.env.at_ j2 x ej
          refine ⟨u, g1, ?_⟩
          cases x with
          | sh d => exact g2
          | own es =>
            obtain ⟨b, ws, e4, k1, k2, k3, k4, k5, k6⟩ := g2
            refine ⟨b, ws, e4, ?_, k2, k3, k4, k5, k6⟩
            show upd c3.H a _ b = some _
            rw [upd_ne (fun z => k5 (by rw [z]; exact ham))]
            exact k1
        · show upd c3.H a _ b = some u
          rw [upd_ne (nB b u hb hn)]
          exact st3.st.fr b u hb hn ht
        · by_cases hba : b = a
          · subst hba
            show upd c3.H b _ b ≠ none
            rw [upd_same]
            exact fun z => by cases z
          · show upd c3.H a _ b ≠ none
            rw [upd_ne hba]
            exact st3.st.dom b hb
      · cases e
    · cases e
  · cases e
end
end DL

/-! DL4: what is walked, loops, comprehensions, defs and their calls. -/
namespace DL
open PySem PySem.Spec PyProof.Rows L2

/-! ### what is walked: it gives these data, one after another, as long as what was known stays -/
structure WalkD (K : PySem.W.Frag) (c : Bas) (J : It) (ds : List D) : Prop where
  len : ds.length ≤ sizeLine
  go : ∀ (i : Nat) (c' : Bas) (S' : Sto), Adv c c' → Sok K c' S' → i < ds.length → J.go i c'.H
  stop : ∀ (c' : Bas) (S' : Sto), Adv c c' → Sok K c' S' → J.stop ds.length c'.H
  yld : ∀ (i : Nat) (c' : Bas) (S' : Sto) (x : V) (H' : Hp), Adv c c' → Sok K c' S' → i < ds.length → J.yld i c'.H x H' →
    ∃ d F', ds[i]? = some d ∧ Step c' ⟨F', c'.ι, H'⟩ ∧ Sok K ⟨F', c'.ι, H'⟩ S' ∧ Rp K F' c'.ι d x
def tI (K : PySem.W.Frag) (B : Bas) (f : EL) : TI := fun σ H R => ∃ F ι S env, Stt K B ⟨F, ι, H⟩ S σ env ∧ ∃ ds S', f env S = .ok ds S' ∧
  ∀ J c', Step ⟨F, ι, H⟩ c' → Sok K c' S' → WalkD K c' J ds → R J c'.H
theorem _root_.L2.PI.imp {X : Cx} {tg iter : Expr} {t t' : TI} (h : PI X tg iter t) (i : ∀ σ H R, t' σ H R → t σ H R) : PI X tg iter t' := ⟨fun pins s σ H R I q => h.run pins s σ H R I (i σ H R q)⟩

/-! a list or a tuple -/
def iSeq (K : PySem.W.Frag) (tl : TE) : TI := fun σ H R => tl σ H fun x H1 => (∃ a xs, x = .ref a ∧ SqL K H1 a xs ∧ R (Itl K a) H1) ∨ (∃ a xs, x = .ref a ∧ SqT K H1 a xs ∧ R (Itt K a) H1)
theorem pi_seq {X : Cx} {tg l : Expr} {tl : TE} (hl : PE X l tl) : PI X tg l (iSeq X.K tl) := by
  refine ⟨fun pins s σ H R I h => ?_⟩
  refine thn (hl.run pins s σ H _ I h) fun v s1 ⟨x, H1, I1, r1, q1⟩ => ?_
  rcases q1 with ⟨a, xs, e, hq, q⟩ | ⟨a, xs, e, hq, q⟩
  · subst e
    cases r1
    obtain ⟨its, rv, p, hz⟩ := I1.list hq
    refine wpAny_pyIter_list p.isList ?_
    refine ⟨s1.heap.objs.size, [s1.heap.objs.size], _, _, H1, rfl, I1.kept (t' := s1.toks) fun b o e => Heap.get?_push_of_some _ e, turn_list a _, ⟨_, Heap.get?_push_size _ rfl, rfl, rfl⟩, fun b hb => ?_, q⟩
    have e : b = s1.heap.objs.size := by simpa using hb
    subst e
    exact I1.fpOk (Nat.le_refl _) (I1.hok.fresh (Nat.le_refl _))
  · subst e
    cases r1
    obtain ⟨its, rv, p, hz⟩ := I1.tuple hq
    refine wpAny_pyIter_tuple (show s1.heap.IsTuple a its.toArray from p) ?_
    refine ⟨s1.heap.objs.size, [s1.heap.objs.size], _, _, H1, rfl, I1.kept (t' := s1.toks) fun b o e => Heap.get?_push_of_some _ e, turn_tuple a _, ⟨_, Heap.get?_push_size _ rfl, rfl, rfl⟩, fun b hb => ?_, q⟩
    have e : b = s1.heap.objs.size := by simpa using hb
    subst e
    exact I1.fpOk (Nat.le_refl _) (I1.hok.fresh (Nat.le_refl _))
section
variable {K : PySem.W.Frag} {c : Bas} {a : Addr} {ds : List D} {vs : List V}
theorem walkD_list (h : SqL K c.F a vs) (hl : vs.length ≤ sizeLine) (r : RpAll K c.F c.ι ds vs) : WalkD K c (Itl K a) ds where
  len := by rw [← r.len]; exact hl
  go := fun i c' S' ad ok hi => walk_list.goes i c'.H (by rw [r.len]; exact hi) (ok.f.seq (ad.same.seq h))
  stop := fun c' S' ad ok => by rw [← r.len]; exact walk_list.stops c'.H (ok.f.seq (ad.same.seq h))
  yld := fun i c' S' x H' ad ok hi y => by
    obtain ⟨e1, e2⟩ := walk_list.yields i c'.H x H' (by rw [r.len]; exact hi) (ok.f.seq (ad.same.seq h)) y
    subst e1
    obtain ⟨d, e3, r3⟩ := r.get' e2
    exact ⟨d, c'.F, e3, Step.refl c', ok, ad.rp r3⟩
theorem walkD_tup (h : SqT K c.F a vs) (hl : vs.length ≤ sizeLine) (r : RpAll K c.F c.ι ds vs) : WalkD K c (Itt K a) ds where
  len := by rw [← r.len]; exact hl
  go := fun i c' S' ad ok hi => walk_tup.goes i c'.H (by rw [r.len]; exact hi) (same_t ok.f (same_t ad.same h))
  stop := fun c' S' ad ok => by rw [← r.len]; exact walk_tup.stops c'.H (same_t ok.f (same_t ad.same h))
  yld := fun i c' S' x H' ad ok hi y => by
    obtain ⟨e1, e2⟩ := walk_tup.yields i c'.H x H' (by rw [r.len]; exact hi) (same_t ok.f (same_t ad.same h)) y
    subst e1
    obtain ⟨d, e3, r3⟩ := r.get' e2
    exact ⟨d, c'.F, e3, Step.refl c', ok, ad.rp r3⟩
end
def seqD : D → Option (List D)
  | .lst ds => some ds
  | .tup ds => some ds
  | _ => none
def iD (f : EE) : EL := fun env S => (f env S).bind fun d S => match seqD d with
  | some ds => .ok ds S
  | none => .stuck
section
variable {X : Cx} {K : PySem.W.Frag} {B : Bas} {tg e e2 : Expr} {f g : EE} {pos : Pos}
theorem i_seq (hK : X.K = K) (h : PE X e (tD K B f)) : PI X tg e (tI K B (iD f)) := by
  subst hK
  refine (pi_seq h).imp fun σ H R ⟨F, ι, S, env, st, ds, S', e, q⟩ => ?_
  obtain ⟨d, S1, e1, e⟩ := Res.bind_ok e
  refine ⟨F, ι, S, env, st, d, S1, e1, fun v c1 s1 o1 r1 => ?_⟩
  cases d with
  | lst xs =>
    cases e
    obtain ⟨a, vs, ev, h1, hl, h2⟩ := r1
    exact .inl ⟨a, vs, ev, o1.f.seq h1, q _ c1 s1 o1 (walkD_list h1 hl h2)⟩
  | tup xs =>
    cases e
    obtain ⟨a, vs, ev, h1, hl, h2⟩ := r1
    exact .inr ⟨a, vs, ev, same_t o1.f h1, q _ c1 s1 o1 (walkD_tup h1 hl h2)⟩
  | non => cases e
  | bl b => cases e
  | int b => cases e
  | str b => cases e
  | mu b => cases e
  | ty b => cases e
  | dct ks xs => cases e
/-! ranges -/
def rangeD (lo : Int) (n : Nat) : List D := (List.range n).map fun (i : Nat) => D.int (lo + (i : Int))
theorem rangeD_len (lo : Int) (n : Nat) : (rangeD lo n).length = n := by unfold rangeD; rw [List.length_map, List.length_range]
theorem rangeD_get {lo : Int} {n i : Nat} (h : i < n) : (rangeD lo n)[i]? = some (.int (lo + (i : Int))) := by
  unfold rangeD
  rw [List.getElem?_map, List.getElem?_range h]
  rfl
def iRg1 (f : EE) : EL := fun env S => (f env S).bind fun d S => match d with
  | .int j => if -1000000 ≤ j ∧ j ≤ 1000000 then .ok (rangeD 0 j.toNat) S else .stuck
  | _ => .stuck
def iRg2 (f g : EE) : EL := fun env S => (f env S).bind fun d S => (g env S).bind fun e S => match d, e with
  | .int i, .int j => if (-1000000 ≤ i ∧ i ≤ 1000000) ∧ -1000000 ≤ j ∧ j ≤ 1000000 then .ok (rangeD i (j - i).toNat) S else .stuck
  | _, _ => .stuck
theorem walkD_range {c : Bas} {lo : Int} {n : Nat} (hn : n ≤ 10000000) : WalkD K c (Itr lo n) (rangeD lo n) where
  len := by rw [rangeD_len]; exact Nat.le_trans hn (by decide)
  go := fun i c' S' ad ok hi => by rw [rangeD_len] at hi; exact hi
  stop := fun c' S' ad ok => by rw [rangeD_len]; exact Nat.le_refl n
  yld := fun i c' S' x H' ad ok hi y => by
    obtain ⟨e1, e2⟩ := y
    subst e1 e2
    rw [rangeD_len] at hi
    exact ⟨_, c'.F, rangeD_get hi, Step.refl c', ok, rfl⟩
theorem i_range1 {p : Pos} (hg : Gl X "range") (hm : X.mg "range" = none) (h : PE X e (tD K B f)) (hs : starEach [e] X.env = [(false, eval e X.env)] := by rfl) : PI X tg (.Call (.Name "range" p) [e] [] pos) (tI K B (iRg1 f)) :=
  (pi_range1 hg hm (pa_cons h pa_nil (hs := hs)) hs).imp fun σ H R ⟨F, ι, S, env, st, ds, S', e, q⟩ => by
    obtain ⟨d, S1, e1, e⟩ := Res.bind_ok e
    refine ⟨F, ι, S, env, st, d, S1, e1, fun v c1 s1 o1 r1 => ?_⟩
    cases d with
    | int j =>
      have e' : (if -1000000 ≤ j ∧ j ≤ 1000000 then Res.ok (rangeD 0 j.toNat) S1 else .stuck) = .ok ds S' := e
      split at e'
      · rename_i hj
        cases e'
        exact ⟨j, by rw [show v = V.int j from r1], by omega, by omega, q _ c1 s1 o1 (walkD_range (by omega))⟩
      · cases e'
    | lst b => cases e
    | tup b => cases e
    | non => cases e
    | bl b => cases e
    | str b => cases e
    | mu b => cases e
    | ty b => cases e
    | dct ks xs => cases e
theorem i_range2 {p : Pos} (hg : Gl X "range") (hm : X.mg "range" = none) (h : PE X e (tD K B f)) (h2 : PE X e2 (tD K B g)) (hs : starEach [e, e2] X.env = [(false, eval e X.env), (false, eval e2 X.env)] := by rfl) (hs2 : starEach [e2] X.env = [(false, eval e2 X.env)] := by rfl) :
    PI X tg (.Call (.Name "range" p) [e, e2] [] pos) (tI K B (iRg2 f g)) :=
  (pi_range2 hg hm (pa_cons h (pa_cons h2 pa_nil (hs := hs2)) (hs := by rw [hs, hs2])) hs hs2).imp fun σ H R ⟨F, ι, S, env, st, ds, S', e, q⟩ => by
    obtain ⟨d, S1, e1, e⟩ := Res.bind_ok e
    obtain ⟨d2, S2, e2, e⟩ := Res.bind_ok e
    refine ⟨F, ι, S, env, st, d, S1, e1, fun v c1 s1 o1 r1 => ?_⟩
    refine ⟨c1.F, c1.ι, S1, env, st.step s1 o1, d2, S2, e2, fun v2 c2 s2 o2 r2 => ?_⟩
    split at e
    · rename_i i j _
      split at e
      · rename_i hj
        cases e
        exact ⟨i, j, by rw [show v = V.int i from r1, show v2 = V.int j from r2], by omega, q _ c2 (s1.trans s2) o2 (walkD_range (by omega))⟩
      · cases e
    · cases e
end

/-! ### for -/
def forGo (g : GE) (b : SS) : List D → SS
  | [] => fun env S => .ok (.nx env) S
  | d :: ds => fun env S => match g d env with
    | none => .stuck
    | some env1 => (b env1 S).bind fun o S => match o with
      | .nx env2 => forGo g b ds env2 S
      | .ct env2 => forGo g b ds env2 S
      | .bk env2 => .ok (.nx env2) S
      | .rt d => .ok (.rt d) S
def sFor (it : EL) (g : GE) (b : SS) : SS := fun env S => (it env S).bind fun ds S => forGo g b ds env S
section
variable {X : Cx} {K : PySem.W.Frag} {B : Bas} {pos : Pos} {iter tg : Expr} {body : List Stmt} {it : EL} {g : GE} {ts : List Nat} {b : SS}
theorem s_for (hp : PassesOwn (model X.prog X.w) X.A X.env X.xe) (hc : X.calm = true) (hi : PI X tg iter (tI K B it)) (hg : PG X tg (tG K B g ts)) (hb : PSs X body (tK K B b))
    (hs : ∀ x, foldedSetIterable iter X.env x = pure x := by intro _; rfl) : PS X (.For tg iter body [] pos) (tK K B (sFor it g b)) := (ps_for hp hc hi hg hb hs).imp fun E σ H ⟨F, ι, S, env, st, o, S', e, q⟩ => by
  obtain ⟨ds, S1, e1, e⟩ := Res.bind_ok e
  refine ⟨F, ι, S, env, st, ds, S1, e1, fun J c1 s1 o1 wk => ?_⟩
  refine ⟨fun i m σ H => m = ds.length - i ∧ i ≤ ds.length ∧ ∃ F ι Si envi, Stt K B ⟨F, ι, H⟩ Si σ envi ∧ Adv c1 ⟨F, ι, H⟩ ∧ forGo g b (ds.drop i) envi Si = .ok o S' ∧ outK K B ⟨F, ι, H⟩ S' E o,
    ⟨ds.length, by omega, Nat.zero_le _, c1.F, c1.ι, S1, env, st.step s1 o1, Adv.refl c1, e, outK.adv s1.adv q⟩, fun i m σ2 H2 w => ?_⟩
  obtain ⟨rfl, hi, F2, ι2, S2, env2, st2, ad2, e2, q2⟩ := w
  by_cases hlt : i < ds.length
  · refine .inr ⟨wk.go i ⟨F2, ι2, H2⟩ S2 ad2 st2.ok hlt, ?_⟩
    have hd : ds.drop i = ds[i] :: ds.drop (i + 1) := List.drop_eq_getElem_cons hlt
    rw [hd] at e2
    refine ⟨fun σ' H' => i + 1 ≤ ds.length ∧ ∃ F ι Si envi, Stt K B ⟨F, ι, H'⟩ Si σ' envi ∧ Adv c1 ⟨F, ι, H'⟩ ∧ forGo g b (ds.drop (i + 1)) envi Si = .ok o S' ∧ outK K B ⟨F, ι, H'⟩ S' E o, fun σ' H' n => ⟨ds.length - (i + 1), by omega, rfl, n⟩, fun x H' y => ?_⟩
    obtain ⟨d, F3, hd3, s3, o3, r3⟩ := wk.yld i ⟨F2, ι2, H2⟩ S2 x H' ad2 st2.ok hlt y
    have hdi : ds[i] = d := by
      rw [List.getElem?_eq_getElem hlt] at hd3
      exact Option.some.inj hd3
    rw [hdi] at e2
    have e2' : (match g d env2 with
      | none => Res.stuck
      | some env1 => (b env1 S2).bind fun o S => match o with
        | .nx env2 => forGo g b (ds.drop (i + 1)) env2 S
        | .ct env2 => forGo g b (ds.drop (i + 1)) env2 S
        | .bk env2 => .ok (.nx env2) S
        | .rt d => .ok (.rt d) S) = .ok o S' := e2
    split at e2'
    · cases e2'
    · rename_i env3 hg3
      refine ⟨F3, ι2, S2, env2, d, env3, st2.step s3 o3, r3, hg3, fun σ4 st4 _ _ => ?_⟩
      obtain ⟨o5, S5, e5, e6⟩ := Res.bind_ok e2'
      refine ⟨F3, ι2, S2, env3, st4, o5, S5, e5, ?_⟩
      have ad3 : Adv c1 ⟨F3, ι2, H'⟩ := ad2.trans s3.adv
      have q3 : outK K B ⟨F3, ι2, H'⟩ S' E o := outK.adv s3.adv q2
      cases o5 with
      | nx env5 => exact fun σ6 c6 st6 s6 => ⟨hlt, c6.F, c6.ι, S5, env5, st6, ad3.trans s6, e6, outK.adv s6 q3⟩
      | ct env5 => exact fun σ6 c6 st6 s6 => ⟨hlt, c6.F, c6.ι, S5, env5, st6, ad3.trans s6, e6, outK.adv s6 q3⟩
      | bk env5 => cases e6; exact q3
      | rt d5 => cases e6; exact q3
  · have hi' : i = ds.length := by omega
    subst hi'
    rw [List.drop_length] at e2
    cases e2
    exact .inl ⟨wk.stop ⟨F2, ι2, H2⟩ _ ad2 st2.ok, q2 σ2 ⟨F2, ι2, H2⟩ st2 (Adv.refl _)⟩
end

/-! ### comprehensions -/
def compGo (g : GE) (p : ET) (f : EE) (env0 : Env) : List D → Sto → Res (List D)
  | [], S => .ok [] S
  | d :: ds, S => match g d env0 with
    | none => .stuck
    | some env => (p env S).bind fun k S => if k = true then (f env S).bind fun y S => (compGo g p f env0 ds S).bind fun ys S => .ok (y :: ys) S else compGo g p f env0 ds S
def eComp (it : EL) (g : GE) (p : ET) (f : EE) (vs : List Nat) : EL := fun env S => (it env S).bind fun ds S => compGo g p f (wipeE env vs) ds S
def eYes : ET := fun _ S => .ok true S
theorem Stt.wipe {K : PySem.W.Frag} {B c : Bas} {S : Sto} {σ : St} {env : Env} (st : Stt K B c S σ env) (vs : List Nat) : Stt K B c S (L2.wipe σ vs) (wipeE env vs) := ⟨st.ok, st.env.wipe vs, st.st⟩
/-- one clause: the reading -/
theorem lc_of {K : PySem.W.Frag} {B : Bas} {it : EL} {g : GE} {ts vs : List Nat} {p : ET} {f : EE} (hts : ∀ t ∈ ts, t ∈ vs) {σ : St} {H : Hp} {Q : VK} (h : tN K B (eComp it g p f vs) σ H Q) :
    tLc (tI K B it) (tG K B g ts) (tT K B p) (tD K B f) vs σ H Q := by
  obtain ⟨F, ι, S, env, st, ys, S', e, k⟩ := h
  obtain ⟨ds, S1, e1, e⟩ := Res.bind_ok e
  refine ⟨F, ι, S, env, st, ds, S1, e1, fun J c1 s1 o1 wk => fun L hL => ?_⟩
  have nH : H L = none := by
    cases q : H L with
    | none => rfl
    | some o => exact absurd hL (s1.dom L (by show H L ≠ none; rw [q]; exact fun z => by cases z))
  obtain ⟨sn, on, L', vs0, eL, _, hL2, _, _, hF0, hι0⟩ := new_lst (ds := []) (vs := []) o1 hL (Nat.zero_le _) rfl
  cases eL
  refine ⟨fun i m H2 => m = ds.length - i ∧ i ≤ ds.length ∧ ∃ F2 ι2 S2 acc av, Step c1 ⟨F2, ι2, H2⟩ ∧ Sok K ⟨F2, ι2, H2⟩ S2 ∧ LAt ⟨F2, ι2, H2⟩ L (.lst av) ∧ av.length ≤ i ∧ RpAll K F2 ι2 acc av ∧
    ∃ zs, compGo g p f (wipeE env vs) (ds.drop i) S2 = .ok zs S' ∧ acc ++ zs = ys, ⟨ds.length, by omega, Nat.zero_le _, c1.F, c1.ι, S1, [], [], sn, on, ⟨upd_same, hF0, hι0⟩, Nat.le_refl _, rfl, ys, e, rfl⟩, fun i m H2 w => ?_⟩
  obtain ⟨rfl, hi, F2, ι2, S2, acc, av, s2, o2, la, hav, ra, zs, e2, e3⟩ := w
  by_cases hlt : i < ds.length
  · refine .inr ⟨wk.go i ⟨F2, ι2, H2⟩ S2 s2.adv o2 hlt, ?_⟩
    have hd : ds.drop i = ds[i] :: ds.drop (i + 1) := List.drop_eq_getElem_cons hlt
    rw [hd] at e2
    refine ⟨fun H' => i + 1 ≤ ds.length ∧ ∃ F2 ι2 S2 acc av, Step c1 ⟨F2, ι2, H'⟩ ∧ Sok K ⟨F2, ι2, H'⟩ S2 ∧ LAt ⟨F2, ι2, H'⟩ L (.lst av) ∧ av.length ≤ i + 1 ∧ RpAll K F2 ι2 acc av ∧
      ∃ zs, compGo g p f (wipeE env vs) (ds.drop (i + 1)) S2 = .ok zs S' ∧ acc ++ zs = ys, fun H' n => ⟨ds.length - (i + 1), by omega, rfl, n⟩, fun x H' y => ?_⟩
    obtain ⟨d, F3, hd3, s3, o3, r3⟩ := wk.yld i ⟨F2, ι2, H2⟩ S2 x H' s2.adv o2 hlt y
    have hdi : ds[i] = d := by
      rw [List.getElem?_eq_getElem hlt] at hd3
      exact Option.some.inj hd3
    rw [hdi] at e2
    have e2' : (match g d (wipeE env vs) with
      | none => Res.stuck
      | some env => (p env S2).bind fun k S => if k = true then (f env S).bind fun y S => (compGo g p f (wipeE _ vs) (ds.drop (i + 1)) S).bind fun ys S => .ok (y :: ys) S else compGo g p f (wipeE _ vs) (ds.drop (i + 1)) S) = .ok zs S' := e2
    split at e2'
    · cases e2'
    · rename_i env3 hg3
      have st3 : Stt K B ⟨F3, ι2, H'⟩ S2 (wipe σ vs) (wipeE env vs) := ((st.step s1 o1).step (s2.trans s3) o3).wipe vs
      refine ⟨F3, ι2, S2, _, d, env3, st3, r3, hg3, fun σ4 st4 hl4 hf4 => ?_⟩
      have hw : wipe σ4 vs = wipe σ vs := by
        rw [← wipe_idem (σ := σ)]
        exact wipe_eq hl4 fun j hj => hf4 j fun z => hj (hts j z)
      refine ⟨hw, ?_⟩
      obtain ⟨k5, S5, e5, e6⟩ := Res.bind_ok e2'
      refine ⟨F3, ι2, S2, env3, st4, k5, S5, e5, fun c5 s5 o5 => ?_⟩
      have sc5 : Step c1 c5 := (s2.trans s3).trans s5
      have la5 : LAt c5 L (.lst av) := la.step (s3.trans s5)
      cases k5 with
      | true =>
        rw [if_pos rfl] at e6
        obtain ⟨y6, S6, e7, e8⟩ := Res.bind_ok e6
        obtain ⟨ys7, S7, e9, e10⟩ := Res.bind_ok e8
        cases e10
        refine iteT ⟨c5.F, c5.ι, S5, env3, st4.step s5 o5, y6, S6, e7, fun v6 c6 s6 o6 r6 => ?_⟩
        have la6 : LAt c6 L (.lst av) := la5.step s6
        refine ⟨av, la6.1, Nat.lt_of_le_of_lt hav (Nat.lt_of_lt_of_le hlt wk.len), hlt, c6.F, c6.ι, S6, acc ++ [y6], av ++ [v6], (sc5.trans s6).upd_new hL, o6.upd la6.2.1 la6.2.2, ⟨upd_same, la6.2⟩, by rw [List.length_append]; exact Nat.succ_le_succ hav, ?_, ys7, e9, by rw [← e3]; simp⟩
        exact (s6.rpAll (s5.rpAll (s3.rpAll ra))).snoc r6
      | false =>
        rw [if_neg Bool.false_ne_true] at e6
        exact iteF ⟨hlt, c5.F, c5.ι, S5, acc, av, sc5, o5, la5, Nat.le_succ_of_le hav, s5.rpAll (s3.rpAll ra), zs, e6, e3⟩
  · have hi' : i = ds.length := by omega
    subst hi'
    rw [List.drop_length] at e2
    cases e2
    rw [List.append_nil] at e3
    subst e3
    exact .inl ⟨wk.stop ⟨F2, ι2, H2⟩ _ s2.adv o2, k _ ⟨F2, ι2, H2⟩ (s1.trans s2) o2 ⟨L, av, rfl, nH, la.1, Nat.le_trans hav wk.len, ra, la.2.1, la.2.2⟩⟩
section
variable {X : Cx} {K : PySem.W.Frag} {B : Bas}
theorem ts_nil : PTs X [] (tT K B eYes) := ⟨fun pins s σ H Q I ⟨F, ι, S, env, st, b, S', e, q⟩ => by
  cases e
  exact pts_nil.run pins s σ H Q I (q _ (Step.refl _) st.ok)⟩
theorem ts_one {c : Expr} {p : ET} (h : PT X c (tT K B p)) : PTs X [c] (tT K B p) := pts_one h
variable {elt tg iter : Expr} {ifs : List Expr} {scope : Scope} {own : List (Str × Nat)} {pos : Pos} {it : EL} {g : GE} {ts : List Nat} {p : ET} {f : EE}
theorem n_lc (hc : X.calm = true) (hN : X.N.Nodup) (hi : PI X tg iter (tI K B it)) (ok : BlkOk X.N X.env.scope scope own)
    (hg : ∀ (s : Shared) (H : Hp) (C : Addr) (cl : List (Str × Addr)) (fp : List Addr), PG (X.blk s H scope (compEnvC scope cl C X.env) fp) tg (tG K B g ts)) (ht : ∀ (s : Shared) (H : Hp) (C : Addr) (cl : List (Str × Addr)) (fp : List Addr), PTs (X.blk s H scope (compEnvC scope cl C X.env) fp) ifs (tT K B p))
    (he : ∀ (s : Shared) (H : Hp) (C : Addr) (cl : List (Str × Addr)) (fp : List Addr), PE (X.blk s H scope (compEnvC scope cl C X.env) fp) elt (tD K B f)) (hts : ∀ t ∈ ts, t ∈ own.map (·.2)) (hs : ∀ x, foldedSetIterable iter X.env x = pure x := by intro _; rfl) :
    PE X (.ListComp elt [⟨tg, iter, ifs, 0⟩] scope pos) (tN K B (eComp it g p f (own.map (·.2)))) :=
  (pe_lc hc hN hi ok hg ht he hs).imp fun σ H Q h => lc_of hts h
theorem s_newLc {i : Nat} {y : Str} {py : Pos} {spos : Pos} (hc : X.calm = true) (hN : X.N.Nodup) (hy : X.N[i]? = some y) (hyl : X.env.scope.names.lookup y = some .local)
    (hsw : swapsWith (.ListComp elt [⟨tg, iter, ifs, 0⟩] scope pos) (some (.Name y py)) spos.line X.env = pure true) (hi : PI X tg iter (tI K B it)) (ok : BlkOk X.N X.env.scope scope own)
    (hg : ∀ (s : Shared) (H : Hp) (C : Addr) (cl : List (Str × Addr)) (fp : List Addr), PG (X.blk s H scope (compEnvC scope cl C X.env) fp) tg (tG K B g ts)) (ht : ∀ (s : Shared) (H : Hp) (C : Addr) (cl : List (Str × Addr)) (fp : List Addr), PTs (X.blk s H scope (compEnvC scope cl C X.env) fp) ifs (tT K B p))
    (he : ∀ (s : Shared) (H : Hp) (C : Addr) (cl : List (Str × Addr)) (fp : List Addr), PE (X.blk s H scope (compEnvC scope cl C X.env) fp) elt (tD K B f)) (hts : ∀ t ∈ ts, t ∈ own.map (·.2)) (hs : ∀ x, foldedSetIterable iter X.env x = pure x := by intro _; rfl) :
    PS X (.Assign [.Name y py] (.ListComp elt [⟨tg, iter, ifs, 0⟩] scope pos) spos) (tAsg (tN K B (eComp it g p f (own.map (·.2)))) (gName i)) :=
  (ps_setLc hc hN hy hyl hsw hi ok hg ht he hs).imp fun E σ H h => lc_of (Q := fun x H1 => gName i x σ H1 E.nx) hts h
end

/-! ### defs -/
def spD (K : PySem.W.Frag) (n : Nat) (φ : List D → Sto → Res D) : Sp := fun vs H Q E => vs.length = n ∧ ∃ F ι S ds, Sok K ⟨F, ι, H⟩ S ∧ RpAll K F ι ds vs ∧ ∃ d S', φ ds S = .ok d S' ∧
  ∀ v c', Step ⟨F, ι, H⟩ c' → Sok K c' S' → Rp K c'.F c'.ι d v → Q v c'.H
def startE (N : Nat) (ds : List D) : Env := ds.map (fun d => some (.sh d)) ++ List.replicate (N - ds.length) none
def runD (N : Nat) (b : SS) : List D → Sto → Res D := fun ds S => match b (startE N ds) S with
  | .ok (.rt d) S' => .ok d S'
  | .ok (.nx _) S' => .ok .non S'
  | _ => .stuck
theorem start_ok {K : PySem.W.Frag} {c : Bas} {S : Sto} {N : List Str} {ds : List D} {vs : List V} (ok : Sok K c S) (r : RpAll K c.F c.ι ds vs) : Stt K c c S (L2.start N vs) (startE N.length ds) := by
  have hl := r.len
  refine ⟨ok, ⟨?_, fun i x e => ?_, fun i j es fs e1 e2 _ => ?_⟩, Step.refl c⟩
  · unfold startE L2.start
    rw [List.length_append, List.length_append, List.length_map, List.length_map, List.length_replicate, List.length_replicate, hl]
  · unfold startE at e
    by_cases hi : i < ds.length
    · rw [List.getElem?_append_left (by rw [List.length_map]; exact hi), List.getElem?_map, List.getElem?_eq_getElem hi] at e
      cases e
      obtain ⟨v, h1, h2⟩ := r.get (List.getElem?_eq_getElem hi)
      refine ⟨v, ?_, h2⟩
      unfold L2.start
      rw [List.getElem?_append_left (by rw [List.length_map, hl]; exact hi), List.getElem?_map, h1]
      rfl
    · rw [List.getElem?_append_right (by rw [List.length_map]; omega), List.getElem?_replicate] at e
      split at e <;> cases e
  · unfold startE at e1
    by_cases hi : i < ds.length
    · rw [List.getElem?_append_left (by rw [List.length_map]; exact hi), List.getElem?_map, List.getElem?_eq_getElem hi] at e1
      cases e1
    · rw [List.getElem?_append_right (by rw [List.length_map]; omega), List.getElem?_replicate] at e1
      split at e1 <;> cases e1
section
variable {P : Program} {w : World} {K : PySem.W.Frag} {mg : Str → Option Value} {base : Heap}
theorem fn_data {x qual : Str} {st : Stmt} {f : Addr} {fd : FuncData} {N ps : List Str} {k : Nat} {b : SS} (F : Fun K x qual st f fd) (S : FnScope N ps (defScope st))
    (hb : ∀ (cdv : Value) (A : Around) (outer : List PySem.Env) (s : Shared) (H : Hp) (E : XK) (B : Bas), Room k (A.deeper (envOfC qual (defScope st) s.heap.objs.size f cdv)) →
      PSs (cxOf CX0 P w K mg base N qual (defScope st) f cdv A outer s H E).nox (defBody st) (tK K B b)) : FnOk P w K mg base CX0 (k + 1) f fd ps (spD K ps.length (runD N.length b)) := by
  refine F.ok S (fun vs H Q E h => h.1) (fun cdv A outer s H vs Q E hr h => ?_)
  obtain ⟨hl, F0, ι, S0, ds, ok, r, d, S', e, q⟩ := h
  refine ⟨_, hb cdv A outer s H E ⟨F0, ι, H⟩ hr, F0, ι, S0, _, start_ok ok r, ?_⟩
  unfold runD at e
  split at e
  · rename_i d' S'' e1
    cases e
    exact ⟨_, _, e1, fun v c' s o r => q v c' s o r⟩
  · rename_i env' S'' e1
    cases e
    exact ⟨_, _, e1, fun σ' c' st ad => q .non c' st.st st.ok rfl⟩
  · cases e
end
def eCall (φ : List D → Sto → Res D) (l : EL) : EE := fun env S => (l env S).bind fun ds S => φ ds S
section
variable {X : Cx} {k n : Nat} {f : Addr} {fd : FuncData} {ps : List Str} {x : Str} {p pos : Pos} {e : Expr} {es : List Expr} {K : PySem.W.Frag} {B : Bas} {φ : List D → Sto → Res D} {l : EL}
theorem RpAll.len' {F : Hp} {ι : List Addr} {ds : List D} {vs : List V} (h : RpAll K F ι ds vs) : ds.length = vs.length := h.len.symm
theorem d_call (F : FnOk X.prog X.w X.K X.mg X.base CX0 k f fd ps (spD K n φ)) (hr : Room k X.A) (hg : Gl X x) (hm : X.mg x = some (.ref f)) (hk : PySem.W.keepIn X.K (.ref f) = true) (hb : Binds X.K fd ps [])
    (ha : PA X (e :: es) (tA K B l)) (hn : (e :: es).length = n) (hla : ∀ env S ds S', l env S = .ok ds S' → ds.length = (e :: es).length) (hdb : (x == ("__debug__" : Str)) = false := by decide) (he : starEach (e :: es) X.env = (false, eval e X.env) :: starEach es X.env := by rfl) (hpl : (backTo pos (starEach es X.env)).any (·.1) = false := by rfl) :
    PE X (.Call (.Name x p) (e :: es) [] pos) (tD K B (eCall φ l)) := (pe_call (E := E0) F hr hg hm hk hb .nil pass0 ha hdb he hpl).imp fun σ H Q ⟨F, ι, S, env, st, d, S', e, q⟩ => by
  obtain ⟨ds, S1, e1, e⟩ := Res.bind_ok e
  refine ⟨F, ι, S, env, st, ds, S1, e1, fun vs c1 s1 o1 r1 => ?_⟩
  show spD K n φ (vs ++ []) c1.H Q E0
  rw [List.append_nil]
  exact ⟨by rw [r1.len, hla _ _ _ _ e1, hn], c1.F, c1.ι, S1, ds, o1, r1, d, S', e, fun v c' s o r => q v c' (s1.trans s) o r⟩
theorem eNil_len {env : Env} {S S' : Sto} {ds : List D} (h : eNil env S = .ok ds S') : ds.length = 0 := by cases h; rfl
theorem eCons_len {f : EE} {l : EL} {n : Nat} (h : ∀ env S ds S', l env S = .ok ds S' → ds.length = n) : ∀ env S ds S', eCons f l env S = .ok ds S' → ds.length = n + 1 := fun env S ds S' e => by
  obtain ⟨x, S1, e1, e⟩ := Res.bind_ok e
  obtain ⟨xs, S2, e2, e⟩ := Res.bind_ok e
  cases e
  rw [List.length_cons, h _ _ _ _ e2]
end
end DL

/-! DL5: built-in functions, slices, + of lists. -/
namespace DL
open PySem PySem.Spec PyProof.Rows L2

abbrev OpA := List D → Sto → Res D
abbrev OpN := List D → Sto → Res (List D)
def CallD (K : PySem.W.Frag) (r : List V → Hp → VK → Prop) (op : OpA) : Prop := ∀ (B : Hp) (c : Bas) (S S' : Sto) (vs : List V) (ds : List D) (d : D), Sok K c S → RbAll K B c ds vs → op ds S = .ok d S' →
  ∀ Q : VK, (∀ v c', Step c c' → Sok K c' S' → Rp K c'.F c'.ι d v → Q v c'.H) → r vs c.H Q
def CallN (K : PySem.W.Frag) (r : List V → Hp → VK → Prop) (op : OpN) : Prop := ∀ (B : Hp) (c : Bas) (S S' : Sto) (vs : List V) (ds : List D) (es : List D), Sok K c S → RbAll K B c ds vs → op ds S = .ok es S' →
  ∀ Q : VK, (∀ v c', Step c c' → Sok K c' S' → NewAt K c c' es v → Q v c'.H) → r vs c.H Q
def eBlt (op : OpA) (l : EL) : EE := fun env S => (l env S).bind fun ds S => op ds S
def eBltN (op : OpN) (l : EL) : EL := fun env S => (l env S).bind fun ds S => op ds S
theorem NewAt.from {K : PySem.W.Frag} {a b c : Bas} {ds : List D} {v : V} (s : Step a b) (n : NewAt K b c ds v) : NewAt K a c ds v := by
  obtain ⟨p, vs, e, h1, h2, h3, h4, h5, h6⟩ := n
  refine ⟨p, vs, e, ?_, h2, h3, h4, h5, h6⟩
  cases q : a.H p with
  | none => rfl
  | some o => exact absurd h1 (s.dom p (by rw [q]; exact fun z => by cases z))
section
variable {X : Cx} {K : PySem.W.Frag} {B : Bas} {x : Str} {p pos : Pos} {e : Expr} {es : List Expr} {l : EL} {id T : String} {r : List V → Hp → VK → Prop}
theorem cb_of {op : OpA} (cd : CallD K r op) {σ : St} {H : Hp} {Q : VK} (h : tD K B (eBlt op l) σ H Q) : tCB r (tAB K B l) σ H Q := by
  obtain ⟨F, ι, S, env, st, d, S', e, q⟩ := h
  obtain ⟨ds, S1, e1, e⟩ := Res.bind_ok e
  refine ⟨F, ι, S, env, st, ds, S1, e1, fun vs c1 s1 o1 r1 => ?_⟩
  exact cd B.H c1 S1 S' vs ds d o1 r1 e Q fun v c' s o r => q v c' (s1.trans s) o r
theorem cbn_of {op : OpN} (cd : CallN K r op) {σ : St} {H : Hp} {Q : VK} (h : tN K B (eBltN op l) σ H Q) : tCB r (tAB K B l) σ H Q := by
  obtain ⟨F, ι, S, env, st, d, S', e, q⟩ := h
  obtain ⟨ds, S1, e1, e⟩ := Res.bind_ok e
  refine ⟨F, ι, S, env, st, ds, S1, e1, fun vs c1 s1 o1 r1 => ?_⟩
  exact cd B.H c1 S1 S' vs ds d o1 r1 e Q fun v c' s o n => q v c' (s1.trans s) o (n.from s1)
theorem d_callB {op : OpA} (hc : CallR X (.builtin id) r) (cd : CallD K r op) (hg : Gl X x) (hm : X.mg x = none) (hv : bootBuiltins x = some (.builtin id)) (ha : PA X (e :: es) (tAB K B l)) (hn : x ≠ "__name__" := by decide) (hdb : (x == ("__debug__" : Str)) = false := by decide)
    (he : starEach (e :: es) X.env = (false, eval e X.env) :: starEach es X.env := by rfl) (hpl : (backTo pos (starEach es X.env)).any (·.1) = false := by rfl) : PE X (.Call (.Name x p) (e :: es) [] pos) (tD K B (eBlt op l)) :=
  (pe_callB hc hg hm hv ha hn hdb he hpl).imp fun _ _ _ h => cb_of cd h
theorem d_callTy {op : OpA} (hc : CallR X (.type T) r) (cd : CallD K r op) (hg : Gl X x) (hm : X.mg x = none) (hv : bootBuiltins x = some (.type T)) (ha : PA X (e :: es) (tAB K B l)) (hn : x ≠ "__name__" := by decide) (hdb : (x == ("__debug__" : Str)) = false := by decide)
    (he : starEach (e :: es) X.env = (false, eval e X.env) :: starEach es X.env := by rfl) (hpl : (backTo pos (starEach es X.env)).any (·.1) = false := by rfl) : PE X (.Call (.Name x p) (e :: es) [] pos) (tD K B (eBlt op l)) :=
  (pe_callTy hc hg hm hv ha hn hdb he hpl).imp fun _ _ _ h => cb_of cd h
theorem n_callB {op : OpN} (hc : CallR X (.builtin id) r) (cd : CallN K r op) (hg : Gl X x) (hm : X.mg x = none) (hv : bootBuiltins x = some (.builtin id)) (ha : PA X (e :: es) (tAB K B l)) (hn : x ≠ "__name__" := by decide) (hdb : (x == ("__debug__" : Str)) = false := by decide)
    (he : starEach (e :: es) X.env = (false, eval e X.env) :: starEach es X.env := by rfl) (hpl : (backTo pos (starEach es X.env)).any (·.1) = false := by rfl) : PE X (.Call (.Name x p) (e :: es) [] pos) (tN K B (eBltN op l)) :=
  (pe_callB hc hg hm hv ha hn hdb he hpl).imp fun _ _ _ h => cbn_of cd h
theorem n_callTy {op : OpN} (hc : CallR X (.type T) r) (cd : CallN K r op) (hg : Gl X x) (hm : X.mg x = none) (hv : bootBuiltins x = some (.type T)) (ha : PA X (e :: es) (tAB K B l)) (hn : x ≠ "__name__" := by decide) (hdb : (x == ("__debug__" : Str)) = false := by decide)
    (he : starEach (e :: es) X.env = (false, eval e X.env) :: starEach es X.env := by rfl) (hpl : (backTo pos (starEach es X.env)).any (·.1) = false := by rfl) : PE X (.Call (.Name x p) (e :: es) [] pos) (tN K B (eBltN op l)) :=
  (pe_callTy hc hg hm hv ha hn hdb he hpl).imp fun _ _ _ h => cbn_of cd h
end

/-! ### len, int, abs, max, min of two -/
def bLen : OpA := fun ds S => match ds with
  | [.lst xs] => .ok (.int xs.length) S
  | [.tup xs] => .ok (.int xs.length) S
  | [.mu n] => (match S[n]? with
    | some xs => .ok (.int xs.length) S
    | none => .stuck)
  | _ => .stuck
def bInt : OpA := fun ds S => match ds with
  | [.int i] => .ok (.int i) S
  | [.bl b] => .ok (.int (if b then 1 else 0)) S
  | _ => .stuck
def bAbs : OpA := fun ds S => match ds with
  | [.int i] => .ok (.int (if i < 0 then -i else i)) S
  | _ => .stuck
def bMax2 : OpA := fun ds S => match ds with
  | [.int i, .int j] => .ok (.int (if j > i then j else i)) S
  | _ => .stuck
def bMin2 : OpA := fun ds S => match ds with
  | [.int i, .int j] => .ok (.int (if j < i then j else i)) S
  | _ => .stuck
theorem RbAll.one {K : PySem.W.Frag} {B : Hp} {c : Bas} {d : D} {vs : List V} (h : RbAll K B c [d] vs) : ∃ v, vs = [v] ∧ Rb K B c d v := by
  obtain ⟨v, r, e, h1, h2⟩ := h
  have h2' : r = [] := h2
  subst h2'
  exact ⟨v, e, h1⟩
theorem RbAll.two {K : PySem.W.Frag} {B : Hp} {c : Bas} {d d' : D} {vs : List V} (h : RbAll K B c [d, d'] vs) : ∃ v w, vs = [v, w] ∧ Rb K B c d v ∧ Rb K B c d' w := by
  obtain ⟨v, r, e, h1, w, r', e', h2, h3⟩ := h
  have h3' : r' = [] := h3
  subst h3' e'
  exact ⟨v, w, e, h1, h2⟩
section
variable {K : PySem.W.Frag}
theorem cd_len : CallD K (fun xs H Q => ∃ p ys, xs = [.ref p] ∧ (SqL K H p ys ∨ SqT K H p ys) ∧ Q (.int ys.length) H) bLen := by
  intro B c S S' vs ds d ok r e Q q
  unfold bLen at e
  split at e
  · cases e
    obtain ⟨v, rfl, h⟩ := r.one
    obtain ⟨a, ws, rfl, h1, _, h2⟩ := h.lst ok
    exact ⟨a, ws, rfl, .inl h1, q _ c (Step.refl c) ok (by show _ = _; rw [h2.len])⟩
  · cases e
    obtain ⟨v, rfl, h⟩ := r.one
    obtain ⟨a, ws, rfl, h1, _, h2⟩ := h.tup ok
    exact ⟨a, ws, rfl, .inr h1, q _ c (Step.refl c) ok (by show _ = _; rw [h2.len])⟩
  · split at e
    · rename_i xs hx
      cases e
      obtain ⟨v, rfl, h⟩ := r.one
      obtain ⟨a, ws, rfl, _, h1, _, h2⟩ := h.mu ok hx
      exact ⟨a, ws, rfl, .inl (SqL.of h1), q _ c (Step.refl c) ok (by show _ = _; rw [h2.len])⟩
    · cases e
  · cases e
theorem cd_int : CallD K (fun xs H Q => (∃ i, xs = [.int i] ∧ Q (.int i) H) ∨ ∃ k, xs = [.bl k] ∧ Q (.int (if k then 1 else 0)) H) bInt := by
  intro B c S S' vs ds d ok r e Q q
  unfold bInt at e
  split at e
  · cases e
    obtain ⟨v, rfl, h⟩ := r.one
    exact .inl ⟨_, by rw [h.int], q _ c (Step.refl c) ok rfl⟩
  · cases e
    obtain ⟨v, rfl, h⟩ := r.one
    exact .inr ⟨_, by rw [h.bl], q _ c (Step.refl c) ok rfl⟩
  · cases e
theorem cd_abs : CallD K (fun xs H Q => ∃ i, xs = [.int i] ∧ Q (.int (if i < 0 then -i else i)) H) bAbs := by
  intro B c S S' vs ds d ok r e Q q
  unfold bAbs at e
  split at e
  · cases e
    obtain ⟨v, rfl, h⟩ := r.one
    exact ⟨_, by rw [h.int], q _ c (Step.refl c) ok rfl⟩
  · cases e
theorem cd_max2 : CallD K (fun xs H Q => ∃ i j, xs = [.int i, .int j] ∧ Q (.int (if j > i then j else i)) H) bMax2 := by
  intro B c S S' vs ds d ok r e Q q
  unfold bMax2 at e
  split at e
  · cases e
    obtain ⟨v, w, rfl, h, h'⟩ := r.two
    exact ⟨_, _, by rw [h.int, h'.int], q _ c (Step.refl c) ok rfl⟩
  · cases e
theorem cd_min2 : CallD K (fun xs H Q => ∃ i j, xs = [.int i, .int j] ∧ Q (.int (if j < i then j else i)) H) bMin2 := by
  intro B c S S' vs ds d ok r e Q q
  unfold bMin2 at e
  split at e
  · cases e
    obtain ⟨v, w, rfl, h, h'⟩ := r.two
    exact ⟨_, _, by rw [h.int, h'.int], q _ c (Step.refl c) ok rfl⟩
  · cases e

/-! ### tuple(x), list(x) -/
def bTuple : OpA := fun ds S => match ds with
  | [.lst xs] => .ok (.tup xs) S
  | [.tup xs] => .ok (.tup xs) S
  | _ => .stuck
def bList : OpN := fun ds S => match ds with
  | [.lst xs] => .ok xs S
  | [.tup xs] => .ok xs S
  | _ => .stuck
theorem cd_tuple : CallD K (fun xs H Q => ∃ p ys, xs = [.ref p] ∧ ((SqL K H p ys ∧ ∀ l, H l = none → Q (.ref l) (upd H l (.tup ys))) ∨ (SqT K H p ys ∧ Q (.ref p) H))) bTuple := by
  intro B c S S' vs ds d ok r e Q q
  unfold bTuple at e
  split at e
  · cases e
    obtain ⟨v, rfl, h⟩ := r.one
    obtain ⟨a, ws, rfl, h1, hl, h2⟩ := h.lst ok
    refine ⟨a, ws, rfl, .inl ⟨h1, fun l hn => ?_⟩⟩
    obtain ⟨s2, o2, r2⟩ := new_tup ok hn hl h2
    exact q _ ⟨_, _, _⟩ s2 o2 r2
  · cases e
    obtain ⟨v, rfl, h⟩ := r.one
    obtain ⟨a, ws, e1, h1, hl, h2⟩ := h.tup ok
    subst e1
    refine ⟨a, ws, rfl, .inr ⟨h1, q _ c (Step.refl c) ok ?_⟩⟩
    rcases h with h | ⟨_, z, _⟩
    · exact h
    · cases z
  · cases e
theorem cn_list : CallN K (fun xs H Q => ∃ p ys, xs = [.ref p] ∧ (SqL K H p ys ∨ SqT K H p ys) ∧ ∀ l, H l = none → Q (.ref l) (upd H l (.lst ys))) bList := by
  intro B c S S' vs ds d ok r e Q q
  unfold bList at e
  split at e
  · cases e
    obtain ⟨v, rfl, h⟩ := r.one
    obtain ⟨a, ws, rfl, h1, hl, h2⟩ := h.lst ok
    refine ⟨a, ws, rfl, .inl h1, fun l hn => ?_⟩
    obtain ⟨s2, o2, n2⟩ := new_lst ok hn hl h2
    exact q _ ⟨_, _, _⟩ s2 o2 n2
  · cases e
    obtain ⟨v, rfl, h⟩ := r.one
    obtain ⟨a, ws, rfl, h1, hl, h2⟩ := h.tup ok
    refine ⟨a, ws, rfl, .inr h1, fun l hn => ?_⟩
    obtain ⟨s2, o2, n2⟩ := new_lst ok hn hl h2
    exact q _ ⟨_, _, _⟩ s2 o2 n2
  · cases e

/-! ### any, all of a list of truth values -/
def allBl : List D → Option (List Bool)
  | [] => some []
  | .bl b :: r => (allBl r).map (b :: ·)
  | _ :: _ => none
theorem allBl_map : ∀ {ds : List D} {bs : List Bool}, allBl ds = some bs → ds = bs.map D.bl
  | [], bs, h => by cases h; rfl
  | .bl b :: r, bs, h => by
    obtain ⟨cs, h1, h2⟩ := Option.map_eq_some_iff.mp (show (allBl r).map (b :: ·) = some bs from h)
    subst h2
    rw [allBl_map h1]
    rfl
  | .non :: _, _, h => by cases h
  | .int _ :: _, _, h => by cases h
  | .str _ :: _, _, h => by cases h
  | .lst _ :: _, _, h => by cases h
  | .tup _ :: _, _, h => by cases h
  | .mu _ :: _, _, h => by cases h
  | .ty _ :: _, _, h => by cases h
  | .dct _ _ :: _, _, h => by cases h
theorem allBl_of : ∀ bs : List Bool, allBl (bs.map D.bl) = some bs
  | [] => rfl
  | b :: r => by show (allBl (r.map D.bl)).map (b :: ·) = _; rw [allBl_of r]; rfl
theorem RpAll.bls {F : Hp} {ι : List Addr} : ∀ {bs : List Bool} {vs : List V}, RpAll K F ι (bs.map D.bl) vs → vs = bs.map V.bl
  | [], _, h => h
  | b :: r, _, ⟨v, w, e, h1, h2⟩ => by
    have h1' : v = .bl b := h1
    rw [e, h1', RpAll.bls h2]
    rfl
def bAny : OpA := fun ds S => match ds with
  | [.lst xs] => (match allBl xs with
    | some bs => .ok (.bl (bs.any id)) S
    | none => .stuck)
  | _ => .stuck
def bAll : OpA := fun ds S => match ds with
  | [.lst xs] => (match allBl xs with
    | some bs => .ok (.bl (bs.all id)) S
    | none => .stuck)
  | _ => .stuck
theorem cd_any : CallD K (rAny K) bAny := by
  intro B c S S' vs ds d ok r e Q q
  unfold bAny at e
  split at e
  · split at e
    · rename_i bs hb
      cases e
      obtain ⟨v, rfl, h⟩ := r.one
      obtain ⟨a, ws, rfl, h1, hl, h2⟩ := h.lst ok
      have h3 := allBl_map hb
      subst h3
      rw [h2.bls] at h1
      exact ⟨a, bs, rfl, h1, q _ c (Step.refl c) ok rfl⟩
    · cases e
  · cases e
theorem cd_all : CallD K (rAll K) bAll := by
  intro B c S S' vs ds d ok r e Q q
  unfold bAll at e
  split at e
  · split at e
    · rename_i bs hb
      cases e
      obtain ⟨v, rfl, h⟩ := r.one
      obtain ⟨a, ws, rfl, h1, hl, h2⟩ := h.lst ok
      have h3 := allBl_map hb
      subst h3
      rw [h2.bls] at h1
      exact ⟨a, bs, rfl, h1, q _ c (Step.refl c) ok rfl⟩
    · cases e
  · cases e

/-! ### max, min of a list or a tuple of ints; min(.., default=..) -/
def allInt : List D → Option (List Int)
  | [] => some []
  | .int b :: r => (allInt r).map (b :: ·)
  | _ :: _ => none
theorem allInt_map : ∀ {ds : List D} {bs : List Int}, allInt ds = some bs → ds = bs.map D.int
  | [], bs, h => by cases h; rfl
  | .int b :: r, bs, h => by
    obtain ⟨cs, h1, h2⟩ := Option.map_eq_some_iff.mp (show (allInt r).map (b :: ·) = some bs from h)
    subst h2
    rw [allInt_map h1]
    rfl
  | .non :: _, _, h => by cases h
  | .bl _ :: _, _, h => by cases h
  | .str _ :: _, _, h => by cases h
  | .lst _ :: _, _, h => by cases h
  | .tup _ :: _, _, h => by cases h
  | .mu _ :: _, _, h => by cases h
  | .ty _ :: _, _, h => by cases h
  | .dct _ _ :: _, _, h => by cases h
theorem allInt_of : ∀ bs : List Int, allInt (bs.map D.int) = some bs
  | [] => rfl
  | b :: r => by show (allInt (r.map D.int)).map (b :: ·) = _; rw [allInt_of r]; rfl
theorem RpAll.ints {F : Hp} {ι : List Addr} : ∀ {bs : List Int} {vs : List V}, RpAll K F ι (bs.map D.int) vs → vs = bs.map V.int
  | [], _, h => h
  | b :: r, _, ⟨v, w, e, h1, h2⟩ => by
    have h1' : v = .int b := h1
    rw [e, h1', RpAll.ints h2]
    rfl
theorem toPy_ints : ∀ ns : List Int, toPyAll (ns.map D.int) = ns.map PyData.int
  | [] => rfl
  | n :: r => by show toPy (.int n) :: toPyAll (r.map D.int) = _; rw [toPy_ints r]; rfl
def seqAny : D → Option (List D)
  | .lst xs => some xs
  | .tup xs => some xs
  | _ => none
def bMax : OpA := fun ds S => match ds with
  | [x] => (match (seqAny x).bind allInt with
    | some (n :: ns) => .ok (.int (ns.foldl max n)) S
    | _ => .stuck)
  | _ => .stuck
def bMin : OpA := fun ds S => match ds with
  | [x] => (match (seqAny x).bind allInt with
    | some (n :: ns) => .ok (.int (ns.foldl min n)) S
    | _ => .stuck)
  | _ => .stuck
def rSeqI (K : PySem.W.Frag) (g : Int → List Int → Int) : List V → Hp → VK → Prop := fun vs H Q => ∃ (a : Addr) (n : Int) (ns : List Int), vs = [V.ref a] ∧ (SqL K H a ((n :: ns).map V.int) ∨ SqT K H a ((n :: ns).map V.int)) ∧ Q (.int (g n ns)) H
theorem readsAll_ints {h : Heap} : ∀ {its : List Value} {ns : List Int}, Vals (ns.map V.int) its → ReadsAll h its (ns.map PyData.int) []
  | _, [], r => by cases r; exact .nil
  | _, n :: ns, r => by
    cases r with
    | cons r1 r2 =>
      obtain ⟨t, rfl⟩ := r1
      exact .cons (as := []) (bs := []) (Reads.int n t) (readsAll_ints r2)
theorem alike_ints (n : Int) (ns : List Int) : PySem.W.AlikeAll ((n :: ns).map PyData.int) := by
  refine ⟨fun x hx y hy => ?_, fun x hx z => ?_⟩
  · obtain ⟨i, _, rfl⟩ := List.mem_map.mp hx
    obtain ⟨j, _, rfl⟩ := List.mem_map.mp hy
    simp only [PySem.W.alike]
  · obtain ⟨i, _, rfl⟩ := List.mem_map.mp hx
    cases z
theorem depth_ints : ∀ ns : List Int, PyData.depthAll (ns.map PyData.int) = 0
  | [] => rfl
  | n :: r => by
    show max (PyData.depth (.int n)) (PyData.depthAll (r.map PyData.int)) = 0
    rw [depth_ints r]
    rfl
theorem of_reads_int {h : Heap} {v : Value} {i : Int} {bs : List Addr} (r : Reads h v (.int i) bs) : ∃ t, v = .int i t := by
  cases r
  exact ⟨_, rfl⟩
variable {X : Cx}
theorem cr_maxI (hc : X.calm = true) (hu : X.A.units + 64 < cLine) : CallR X (.builtin "max") (rSeqI X.K fun n ns => ns.foldl max n) := by
  intro pins s σ H vs us Q I r h
  obtain ⟨a, n, ns, rfl, hs, q⟩ := h
  rw [Vals.ref1 r]
  rcases hs with hs | hs
  · obtain ⟨its, rv, hl, _⟩ := I.list hs
    refine PySem.W.max_list_data (I.ok.hd hc) hl.isList (x := .int n) (xs := ns.map .int) (as := []) (readsAll_ints rv) (alike_ints n ns) (by rw [show (PyData.int n :: ns.map PyData.int) = (n :: ns).map PyData.int from rfl, depth_ints]; omega) fun i v h' tk bs hv hr hk => ?_
    rw [PySem.W.maxD_ints] at hr
    obtain ⟨t, rfl⟩ := of_reads_int hr
    exact ⟨.int _, H, I.kept hk, ⟨t, rfl⟩, q⟩
  · obtain ⟨its, rv, hl, _⟩ := I.tuple hs
    refine PySem.W.max_tuple_data (I.ok.hd hc) (show s.heap.IsTuple a its.toArray from hl) (x := .int n) (xs := ns.map .int) (as := []) (readsAll_ints rv) (alike_ints n ns) (by rw [show (PyData.int n :: ns.map PyData.int) = (n :: ns).map PyData.int from rfl, depth_ints]; omega) fun i v h' tk bs hv hr hk => ?_
    rw [PySem.W.maxD_ints] at hr
    obtain ⟨t, rfl⟩ := of_reads_int hr
    exact ⟨.int _, H, I.kept hk, ⟨t, rfl⟩, q⟩
theorem cr_minI (hc : X.calm = true) (hu : X.A.units + 64 < cLine) : CallR X (.builtin "min") (rSeqI X.K fun n ns => ns.foldl min n) := by
  intro pins s σ H vs us Q I r h
  obtain ⟨a, n, ns, rfl, hs, q⟩ := h
  rw [Vals.ref1 r]
  rcases hs with hs | hs
  · obtain ⟨its, rv, hl, _⟩ := I.list hs
    refine PySem.W.min_list_data (I.ok.hd hc) hl.isList (x := .int n) (xs := ns.map .int) (as := []) (readsAll_ints rv) (alike_ints n ns) (by rw [show (PyData.int n :: ns.map PyData.int) = (n :: ns).map PyData.int from rfl, depth_ints]; omega) fun i v h' tk bs hv hr hk => ?_
    rw [PySem.W.minD_ints] at hr
    obtain ⟨t, rfl⟩ := of_reads_int hr
    exact ⟨.int _, H, I.kept hk, ⟨t, rfl⟩, q⟩
  · obtain ⟨its, rv, hl, _⟩ := I.tuple hs
    refine PySem.W.min_tuple_data (I.ok.hd hc) (show s.heap.IsTuple a its.toArray from hl) (x := .int n) (xs := ns.map .int) (as := []) (readsAll_ints rv) (alike_ints n ns) (by rw [show (PyData.int n :: ns.map PyData.int) = (n :: ns).map PyData.int from rfl, depth_ints]; omega) fun i v h' tk bs hv hr hk => ?_
    rw [PySem.W.minD_ints] at hr
    obtain ⟨t, rfl⟩ := of_reads_int hr
    exact ⟨.int _, H, I.kept hk, ⟨t, rfl⟩, q⟩
theorem Rb.ints {B : Hp} {c : Bas} {S : Sto} {x : D} {v : V} {ns : List Int} (ok : Sok K c S) (h : Rb K B c x v) (e : (seqAny x).bind allInt = some ns) : ∃ a, v = .ref a ∧ (SqL K c.H a (ns.map V.int) ∨ SqT K c.H a (ns.map V.int)) := by
  obtain ⟨xs, e1, e2⟩ := Option.bind_eq_some_iff.mp e
  have e3 := allInt_map e2
  subst e3
  cases x with
  | lst ys =>
    cases e1
    obtain ⟨a, ws, ev, h1, hl, h2⟩ := h.lst ok
    exact ⟨a, ev, .inl (by rw [← h2.ints]; exact h1)⟩
  | tup ys =>
    cases e1
    obtain ⟨a, ws, ev, h1, hl, h2⟩ := h.tup ok
    exact ⟨a, ev, .inr (by rw [← h2.ints]; exact h1)⟩
  | non => cases e1
  | bl _ => cases e1
  | int _ => cases e1
  | str _ => cases e1
  | mu _ => cases e1
  | ty _ => cases e1
  | dct ks xs => cases e1
theorem cd_max : CallD K (rSeqI K fun n ns => ns.foldl max n) bMax := by
  intro B c S S' vs ds d ok r e Q q
  unfold bMax at e
  split at e
  · split at e
    · rename_i n ns hb
      cases e
      obtain ⟨v, rfl, h⟩ := r.one
      obtain ⟨a, rfl, h1⟩ := Rb.ints ok h hb
      exact ⟨a, n, ns, rfl, h1, q _ c (Step.refl c) ok rfl⟩
    · cases e
  · cases e
theorem cd_min : CallD K (rSeqI K fun n ns => ns.foldl min n) bMin := by
  intro B c S S' vs ds d ok r e Q q
  unfold bMin at e
  split at e
  · split at e
    · rename_i n ns hb
      cases e
      obtain ⟨v, rfl, h⟩ := r.one
      obtain ⟨a, rfl, h1⟩ := Rb.ints ok h hb
      exact ⟨a, n, ns, rfl, h1, q _ c (Step.refl c) ok rfl⟩
    · cases e
  · cases e

/-! ### sorted: ints, pairs of ints -/
def isPair : D → Option (Int × Int)
  | .tup [.int i, .int j] => some (i, j)
  | _ => none
def allPair : List D → Option (List (Int × Int))
  | [] => some []
  | d :: r => (isPair d).bind fun p => (allPair r).map (p :: ·)
def dPair (p : Int × Int) : D := .tup [.int p.1, .int p.2]
theorem isPair_eq {d : D} {p : Int × Int} (h : isPair d = some p) : d = dPair p := by
  unfold isPair at h
  split at h
  · cases h; rfl
  · cases h
theorem allPair_map : ∀ {ds : List D} {ps : List (Int × Int)}, allPair ds = some ps → ds = ps.map dPair
  | [], ps, h => by cases h; rfl
  | d :: r, ps, h => by
    obtain ⟨p, h1, h2⟩ := Option.bind_eq_some_iff.mp (show (isPair d).bind (fun p => (allPair r).map (p :: ·)) = some ps from h)
    obtain ⟨cs, h3, h4⟩ := Option.map_eq_some_iff.mp h2
    subst h4
    rw [allPair_map h3, isPair_eq h1]
    rfl
theorem allPair_of : ∀ ps : List (Int × Int), allPair (ps.map dPair) = some ps
  | [] => rfl
  | p :: r => by
    show (isPair (dPair p)).bind (fun p => (allPair (r.map dPair)).map (p :: ·)) = _
    rw [allPair_of r]
    rfl
def leP (p q : Int × Int) : Bool := decide (p.1 < q.1 ∨ (p.1 = q.1 ∧ p.2 ≤ q.2))
def bSorted : OpN := fun ds S => match ds with
  | [x] => (match (seqAny x) with
    | some xs => (match allInt xs with
      | some ns => .ok ((ns.mergeSort fun a b => decide (a ≤ b)).map D.int) S
      | none => (match allPair xs with
        | some ps => .ok ((ps.mergeSort leP).map dPair) S
        | none => .stuck))
    | none => .stuck)
  | _ => .stuck
end
end DL

/-! DL6: sorted, slices, + of lists, min with default, isinstance. -/
namespace DL
open PySem PySem.Spec PyProof.Rows L2

/-! ### sorted, by data -/
def leY (a b : PyData) : Bool := !PySem.W.dataLt b a
def rSortD (K : PySem.W.Frag) : List V → Hp → VK → Prop := fun vs H Q => ∃ (a : Addr) (ps : List (V × PyData)), vs = [V.ref a] ∧ SqL K H a (ps.map Prod.fst) ∧ (∀ p ∈ ps, Dp K H p.1 p.2) ∧
  PySem.W.AllAlike (ps.map Prod.snd) ∧ PySem.W.Sortable (ps.map Prod.snd) ∧ (∀ p ∈ ps, p.2.depth ≤ 40) ∧
  ∀ l, H l = none → Q (.ref l) (upd H l (.lst ((ps.mergeSort fun p q => leY p.2 q.2).map Prod.fst)))
section
variable {X : Cx}
theorem eachV {its : List Value} : ∀ {ps : List (V × PyData)}, Vals (ps.map Prod.fst) its → PySem.W.EachIs (fun (u : Value) (p : V × PyData) => RelV p.1 u) its ps := by
  intro ps
  induction ps generalizing its with
  | nil => intro r; cases r; exact .nil
  | cons p ps ih => intro r; cases r with | cons r1 r2 => exact .cons r1 (ih r2)
theorem eachR {h : Heap} {its : List Value} : ∀ {ps : List (V × PyData)}, Vals (ps.map Prod.fst) its → (∀ p ∈ ps, ∀ u, RelV p.1 u → ∃ as, Reads h u p.2 as) → PySem.W.EachIs (fun (u : Value) (p : V × PyData) => ∃ as, Reads h u p.2 as) its ps := by
  intro ps
  induction ps generalizing its with
  | nil => intro r _; cases r; exact .nil
  | cons p ps ih => intro r f; cases r with | cons r1 r2 => exact .cons (f p List.mem_cons_self _ r1) (ih r2 fun q hq => f q (List.mem_cons_of_mem _ hq))
theorem valsE {its : List Value} : ∀ {ps : List (V × PyData)}, PySem.W.EachIs (fun (u : Value) (p : V × PyData) => RelV p.1 u) its ps → Vals (ps.map Prod.fst) its := by
  intro ps
  induction ps generalizing its with
  | nil => intro r; cases r; exact .nil
  | cons p ps ih => intro r; cases r with | cons r1 r2 => exact .cons r1 (ih r2)
theorem cr_sortD (hu : X.A.units + 64 < cLine) : CallR X (.builtin "sorted") (rSortD X.K) := by
  intro pins s σ H vs us Q I r h
  obtain ⟨a, ps, rfl, hs, hd, hal, hk, hz, q⟩ := h
  obtain ⟨its, rv, hl, hlen⟩ := I.list hs
  rw [Vals.ref1 r]
  rw [List.length_map] at hlen
  refine PySem.W.sorted_data (R := fun (u : Value) (p : V × PyData) => RelV p.1 u) (bs := ps) (enc := Prod.snd) hl.isList (eachV rv) (eachR rv fun p hp u ru => Dp.reads I p.2 p.1 u (hd p hp) ru) hal hk hlen
    (fun p hp => by have := hz p hp; omega) fun out ho he => ?_
  have rv' := valsE he
  have e : PySem.W.dataLe false (Prod.snd : V × PyData → PyData) = fun p q => leY p.2 q.2 := PySem.W.dataLe_eq false Prod.snd
  rw [e] at rv'
  obtain ⟨ep, he'⟩ := PyProof.Rows.sortedAll_at s.heap its out.toArray
  have hl' : ((ps.mergeSort fun p q => leY p.2 q.2).map Prod.fst).length ≤ sizeLine := by
    rw [List.length_map, List.length_mergeSort]
    exact hlen
  exact ⟨.ref _, upd H (s.heap.objs.size + 1) (.lst ((ps.mergeSort fun p q => leY p.2 q.2).map Prod.fst)), I.laid (t' := s.toks) (fun _ _ => PyProof.Rows.sortedAll_old) (Nat.le_succ _) ⟨hl', out, ep, rv', he'⟩, rfl, q _ (I.hok.fresh (Nat.le_succ _))⟩
end
def leD (a b : D) : Bool := leY (toPy a) (toPy b)
/-- the items that sorted takes: ints, pairs of ints -/
def sortable (xs : List D) : Bool := (allInt xs).isSome || (allPair xs).isSome
def oSorted : OpN := fun ds S => match ds with
  | [.lst xs] => if sortable xs = true then .ok (xs.mergeSort leD) S else .stuck
  | _ => .stuck
section
variable {K : PySem.W.Frag} {F : Hp} {ι : List Addr}
theorem RpAll.zip : ∀ {ds : List D} {vs : List V}, RpAll K F ι ds vs → (vs.zip ds).map Prod.fst = vs ∧ (vs.zip ds).map Prod.snd = ds ∧ ∀ p ∈ vs.zip ds, Rp K F ι p.2 p.1
  | [], _, h => by rw [show _ = [] from h]; exact ⟨rfl, rfl, fun _ h => by cases h⟩
  | d :: ds, _, ⟨v, r, e, h1, h2⟩ => by
    obtain ⟨e1, e2, e3⟩ := RpAll.zip h2
    subst e
    refine ⟨?_, ?_, fun p hp => ?_⟩
    · show v :: (r.zip ds).map Prod.fst = _
      rw [e1]
    · show d :: (r.zip ds).map Prod.snd = _
      rw [e2]
    · rcases List.mem_cons.mp hp with h | h
      · rw [h]; exact h1
      · exact e3 p h
theorem RpAll.of_zip : ∀ {ps : List (V × D)}, (∀ p ∈ ps, Rp K F ι p.2 p.1) → RpAll K F ι (ps.map Prod.snd) (ps.map Prod.fst)
  | [], _ => rfl
  | p :: ps, h => ⟨p.1, ps.map Prod.fst, rfl, h p List.mem_cons_self, RpAll.of_zip fun q hq => h q (List.mem_cons_of_mem _ hq)⟩
theorem sortable_ok {xs : List D} (h : sortable xs = true) : plAll xs = true ∧ PySem.W.AllAlike (toPyAll xs) ∧ PySem.W.Sortable (toPyAll xs) ∧ ∀ d ∈ toPyAll xs, d.depth ≤ 40 := by
  unfold sortable at h
  rw [Bool.or_eq_true] at h
  have mp : ∀ ys : List D, toPyAll ys = ys.map toPy := fun ys => by
    induction ys with
    | nil => rfl
    | cons y ys ih => show toPy y :: toPyAll ys = _; rw [ih]; rfl
  rcases h with h | h
  · obtain ⟨ns, e⟩ := Option.isSome_iff_exists.mp h
    have e' := allInt_map e
    subst e'
    rw [toPy_ints]
    refine ⟨?_, fun d hd d' hd' => ?_, .inr fun d hd => ?_, fun d hd => ?_⟩
    · clear e h
      induction ns with
      | nil => rfl
      | cons n ns ih => show (true && plAll (ns.map D.int)) = true; rw [ih] <;> rfl
    · obtain ⟨i, _, rfl⟩ := List.mem_map.mp hd
      obtain ⟨j, _, rfl⟩ := List.mem_map.mp hd'
      simp only [PySem.W.alike]
    · obtain ⟨i, _, rfl⟩ := List.mem_map.mp hd
      exact ⟨fun z => (by cases z), fun xs z => (by cases z)⟩
    · obtain ⟨i, _, rfl⟩ := List.mem_map.mp hd
      exact Nat.zero_le _
  · obtain ⟨ns, e⟩ := Option.isSome_iff_exists.mp h
    have e' := allPair_map e
    subst e'
    rw [mp, List.map_map]
    refine ⟨?_, fun d hd d' hd' => ?_, .inl fun d hd => ?_, fun d hd => ?_⟩
    · clear e h
      induction ns with
      | nil => rfl
      | cons n ns ih => show (pl (dPair n) && plAll (ns.map dPair)) = true; rw [ih] <;> rfl
    · obtain ⟨i, _, rfl⟩ := List.mem_map.mp hd
      obtain ⟨j, _, rfl⟩ := List.mem_map.mp hd'
      show PySem.W.alike (.tuple [.int _, .int _]) (.tuple [.int _, .int _]) = true
      simp only [PySem.W.alike, PySem.W.alikeAll, Bool.and_self]
    · obtain ⟨i, _, rfl⟩ := List.mem_map.mp hd
      exact ⟨_, _, rfl⟩
    · obtain ⟨i, _, rfl⟩ := List.mem_map.mp hd
      exact (by decide : (1 : Nat) ≤ 40)
theorem plAll_mem : ∀ {xs : List D} {x : D}, plAll xs = true → x ∈ xs → pl x = true
  | y :: ys, x, h, hx => by
    have h' : (pl y && plAll ys) = true := h
    rw [Bool.and_eq_true] at h'
    rcases List.mem_cons.mp hx with e | e
    · rw [e]; exact h'.1
    · exact plAll_mem h'.2 e
theorem toPyAll_map : ∀ ys : List D, toPyAll ys = ys.map toPy
  | [] => rfl
  | y :: ys => by show toPy y :: toPyAll ys = _; rw [toPyAll_map ys]; rfl
theorem cn_sorted : CallN K (rSortD K) oSorted := by
  intro B c S S' vs ds es ok r e Q q
  unfold oSorted at e
  split at e
  · rename_i xs
    split at e
    · rename_i hs
      cases e
      obtain ⟨v, rfl, h⟩ := r.one
      obtain ⟨a, ws, rfl, h1, hl, h2⟩ := h.lst ok
      obtain ⟨z1, z2, z3⟩ := h2.zip
      obtain ⟨k1, k2, k3, k4⟩ := sortable_ok hs
      have em : ((ws.zip xs).map fun p => (p.1, toPy p.2)).map Prod.fst = ws := by
        rw [List.map_map]
        exact z1
      have es : ((ws.zip xs).map fun p => (p.1, toPy p.2)).map Prod.snd = toPyAll xs := by
        rw [List.map_map, toPyAll_map]
        conv => rhs; rw [← z2]
        rw [List.map_map]
        rfl
      refine ⟨a, (ws.zip xs).map fun p => (p.1, toPy p.2), rfl, by rw [em]; exact h1, fun p hp => ?_, by rw [es]; exact k2, by rw [es]; exact k3, fun p hp => ?_, fun l hn => ?_⟩
      · obtain ⟨p', hp', rfl⟩ := List.mem_map.mp hp
        refine Rp.dp ok.f _ _ (plAll_mem k1 ?_) (z3 p' hp')
        have : p'.2 ∈ (ws.zip xs).map Prod.snd := List.mem_map.mpr ⟨p', hp', rfl⟩
        rw [z2] at this
        exact this
      · have : p.2 ∈ ((ws.zip xs).map fun p => (p.1, toPy p.2)).map Prod.snd := List.mem_map.mpr ⟨p, hp, rfl⟩
        rw [es] at this
        exact k4 _ this
      · have e1 : ((ws.zip xs).mergeSort fun p q => leD p.2 q.2).map (fun p => (p.1, toPy p.2)) = ((ws.zip xs).map fun p => (p.1, toPy p.2)).mergeSort fun p q => leY p.2 q.2 :=
          PySem.W.sort_maps (fun p : V × D => (p.1, toPy p.2)) fun _ _ _ _ => rfl
        rw [← e1, List.map_map]
        have e2 : ((ws.zip xs).mergeSort fun p q => leD p.2 q.2).map Prod.snd = xs.mergeSort leD := by
          conv => rhs; rw [← z2]
          exact PySem.W.sort_maps Prod.snd fun _ _ _ _ => rfl
        have r' : RpAll K c.F c.ι (xs.mergeSort leD) (((ws.zip xs).mergeSort fun p q => leD p.2 q.2).map Prod.fst) := by
          rw [← e2]
          exact RpAll.of_zip fun p hp => z3 p (List.mem_mergeSort.mp hp)
        have hl' : (((ws.zip xs).mergeSort fun p q => leD p.2 q.2).map Prod.fst).length ≤ sizeLine := by
          rw [List.length_map, List.length_mergeSort, ← List.length_map (f := Prod.fst), z1]
          exact hl
        obtain ⟨s2, o2, n2⟩ := new_lst ok hn hl' r'
        exact q _ ⟨_, _, _⟩ s2 o2 n2
    · cases e
  · cases e
end

/-! ### slices -/
def cutD (xs : List D) (lo hi : Option Int) : List D := (xs.drop (HT.sIx xs.length 0 lo)).take (HT.sIx xs.length xs.length hi - HT.sIx xs.length 0 lo)
abbrev EO := Env → Sto → Res (Option Int)
def tOI (K : PySem.W.Frag) (B : Bas) (f : EO) : TO := fun σ H Q => ∃ F ι S env, Stt K B ⟨F, ι, H⟩ S σ env ∧ ∃ o S', f env S = .ok o S' ∧ ∀ c', Step ⟨F, ι, H⟩ c' → Sok K c' S' → Q o c'.H
theorem _root_.L2.PO.imp {X : Cx} {e : Option Expr} {t t' : TO} (h : PO X e t) (i : ∀ σ H Q, t' σ H Q → t σ H Q) : PO X e t' := ⟨fun pins s σ H Q I q => h.run pins s σ H Q I (i σ H Q q)⟩
def oNo : EO := fun _ S => .ok none S
def oSo (f : EE) : EO := fun env S => (f env S).bind fun d S => match d with
  | .int i => .ok (some i) S
  | _ => .stuck
section
variable {X : Cx} {K : PySem.W.Frag} {B : Bas} {e : Expr} {f : EE} {pos p2 : Pos} {lo hi : Option Expr} {u v : EO}
theorem po_no : PO X none (tOI K B oNo) := po_none.imp fun σ H Q ⟨F, ι, S, env, st, o, S', e, q⟩ => by
  cases e
  exact q _ (Step.refl _) st.ok
theorem po_so (h : PE X e (tD K B f)) : PO X (some e) (tOI K B (oSo f)) := (po_some h).imp fun σ H Q ⟨F, ι, S, env, st, o, S', e, q⟩ => by
  obtain ⟨d, S1, e1, e⟩ := Res.bind_ok e
  refine ⟨F, ι, S, env, st, d, S1, e1, fun v c1 s1 o1 r1 => ?_⟩
  split at e
  · cases e
    exact ⟨_, r1, q c1 s1 o1⟩
  · cases e
/-- xs[lo:hi] of a list: a new list -/
def eSlL (f : EE) (u v : EO) : EL := fun env S => (f env S).bind fun d S => (u env S).bind fun lo S => (v env S).bind fun hi S => match d with
  | .lst xs => .ok (cutD xs lo hi) S
  | _ => .stuck
/-- of a list or a tuple -/
def eSl (f : EE) (u v : EO) : EE := fun env S => (f env S).bind fun d S => (u env S).bind fun lo S => (v env S).bind fun hi S => match d with
  | .lst xs => .ok (.lst (cutD xs lo hi)) S
  | .tup xs => .ok (.tup (cutD xs lo hi)) S
  | _ => .stuck
theorem RpAll.cut {F : Hp} {ι : List Addr} {xs : List D} {vs : List V} (h : RpAll K F ι xs vs) (lo hi : Option Int) : RpAll K F ι (cutD xs lo hi) (cutV vs lo hi) := by
  unfold cutD cutV
  rw [h.len]
  exact (h.drop _).take _
theorem cutD_whole {xs : List D} {lo hi : Option Int} (h : HT.sIx xs.length 0 lo = 0 ∧ HT.sIx xs.length xs.length hi = xs.length) : cutD xs lo hi = xs := by
  unfold cutD
  rw [h.1, h.2, List.drop_zero, Nat.sub_zero, List.take_length]
theorem n_slice (hK : X.K = K) (he : PE X e (tB K B f)) (hl : PO X lo (tOI K B u)) (hu : PO X hi (tOI K B v)) : PE X (.Subscript e (.Slice lo hi none p2) pos) (tN K B (eSlL f u v)) := by
  subst hK
  refine (pe_slice sl_list he hl hu).imp fun σ H Q ⟨F, ι, S, env, st, ys, S', e, q⟩ => ?_
  obtain ⟨d, S1, e1, e⟩ := Res.bind_ok e
  obtain ⟨l, S2, e2, e⟩ := Res.bind_ok e
  obtain ⟨h, S3, e3, e⟩ := Res.bind_ok e
  refine ⟨F, ι, S, env, st, d, S1, e1, fun v1 c1 s1 o1 r1 => ?_⟩
  refine ⟨c1.F, c1.ι, S1, env, st.step s1 o1, l, S2, e2, fun c2 s2 o2 => ?_⟩
  refine ⟨c2.F, c2.ι, S2, env, st.step (s1.trans s2) o2, h, S3, e3, fun c3 s3 o3 => ?_⟩
  split at e
  · cases e
    obtain ⟨a, vs, rfl, h1, hz, h2⟩ := ((r1.step s2).step s3).lst o3
    refine ⟨a, vs, rfl, h1, fun p hp => ?_⟩
    obtain ⟨s4, o4, n4⟩ := new_lst o3 hp (Nat.le_trans (cutV_length _ _ _) hz) (h2.cut l h)
    exact q _ ⟨_, _, _⟩ (((s1.trans s2).trans s3).trans s4) o4 (n4.from ((s1.trans s2).trans s3))
  · cases e
theorem d_slice (hK : X.K = K) (he : PE X e (tB K B f)) (hl : PO X lo (tOI K B u)) (hu : PO X hi (tOI K B v)) : PE X (.Subscript e (.Slice lo hi none p2) pos) (tD K B (eSl f u v)) := by
  subst hK
  refine (pe_slice (SlR.or sl_list sl_tupA) he hl hu).imp fun σ H Q ⟨F, ι, S, env, st, ys, S', e, q⟩ => ?_
  obtain ⟨d, S1, e1, e⟩ := Res.bind_ok e
  obtain ⟨l, S2, e2, e⟩ := Res.bind_ok e
  obtain ⟨h, S3, e3, e⟩ := Res.bind_ok e
  refine ⟨F, ι, S, env, st, d, S1, e1, fun v1 c1 s1 o1 r1 => ?_⟩
  refine ⟨c1.F, c1.ι, S1, env, st.step s1 o1, l, S2, e2, fun c2 s2 o2 => ?_⟩
  refine ⟨c2.F, c2.ι, S2, env, st.step (s1.trans s2) o2, h, S3, e3, fun c3 s3 o3 => ?_⟩
  have sm := (s1.trans s2).trans s3
  split at e
  · cases e
    obtain ⟨a, vs, rfl, h1, hz, h2⟩ := ((r1.step s2).step s3).lst o3
    refine .inl ⟨a, vs, rfl, h1, fun p hp => ?_⟩
    obtain ⟨s4, o4, n4⟩ := new_lst o3 hp (Nat.le_trans (cutV_length _ _ _) hz) (h2.cut l h)
    obtain ⟨F', s5, o5, r5⟩ := frz_new s4 o4 n4
    exact q _ ⟨F', _, _⟩ (sm.trans s5) o5 r5
  · cases e
    have r3 := (r1.step s2).step s3
    obtain ⟨a, vs, ev, h1, hz, h2⟩ := r3.tup o3
    subst ev
    refine .inr ⟨a, vs, rfl, h1, fun hw => ?_, fun _ p hp => ?_⟩
    · rw [h2.len] at hw
      rw [cutD_whole hw] at q
      refine q _ c3 sm o3 ?_
      rcases r3 with r3 | ⟨_, z, _⟩
      · exact r3
      · cases z
    · obtain ⟨s4, o4, r4⟩ := new_tup o3 hp (Nat.le_trans (cutV_length _ _ _) hz) (h2.cut l h)
      exact q _ ⟨_, _, _⟩ (sm.trans s4) o4 r4
  · cases e
end

/-! ### list + list, list * int -/
def eCat (f g : EE) : EL := fun env S => (f env S).bind fun x S => (g env S).bind fun y S => match x, y with
  | .lst xs, .lst ys => if xs.length + ys.length ≤ 1000000 then .ok (xs ++ ys) S else .stuck
  | _, _ => .stuck
/-- tracked, not the module's own -/
def TrL (c : Bas) (v : V) : Prop := ∃ a vs, v = .ref a ∧ c.H a = some (.lst vs)
section
variable {X : Cx} {K : PySem.W.Frag} {B : Bas} {a b e : Expr} {f g : EE} {l l' : EL} {pos : Pos}
theorem sizeM' {n : Nat} (h : n ≤ 1000000) : n ≤ sizeLine := Nat.le_trans h (by decide)
/-- a new list, then another one -/
def eCatN (l l' : EL) : EL := fun env S => (l env S).bind fun xs S => (l' env S).bind fun ys S => if xs.length + ys.length ≤ 1000000 then .ok (xs ++ ys) S else .stuck
theorem n_cat (ha : PE X a (tN K B l)) (hb : PE X b (tN K B l')) : PE X (.BinOp a .Add b pos) (tN K B (eCatN l l')) := (pe_op op_cat ha hb).imp fun σ H Q ⟨F, ι, S, env, st, ys, S', e, q⟩ => by
  obtain ⟨xs, S1, e1, e⟩ := Res.bind_ok e
  obtain ⟨zs, S2, e2, e⟩ := Res.bind_ok e
  refine ⟨F, ι, S, env, st, xs, S1, e1, fun v1 c1 s1 o1 n1 => ?_⟩
  refine ⟨c1.F, c1.ι, S1, env, st.step s1 o1, zs, S2, e2, fun v2 c2 s2 o2 n2 => ?_⟩
  split at e
  · rename_i hz
    cases e
    obtain ⟨p1, w1, ev1, a1, b1, d1, r1, f1, g1⟩ := n1
    obtain ⟨p2, w2, ev2, a2, b2, d2, r2, f2, g2⟩ := n2
    have la : LAt c2 p1 (.lst w1) := LAt.step (c := c1) ⟨b1, f1, g1⟩ s2
    have hl : w1.length + w2.length ≤ sizeLine := by rw [r1.len, r2.len]; exact sizeM' hz
    refine ⟨p1, p2, w1, w2, ev1, ev2, la.1, b2, hl, fun p hp => ?_⟩
    obtain ⟨s3, o3, n3⟩ := new_lst o2 hp (by rw [List.length_append]; exact hl) ((s2.rpAll r1).append r2)
    exact q _ ⟨_, _, _⟩ ((s1.trans s2).trans s3) o3 (n3.from (s1.trans s2))
  · cases e
/-- [..] * n -/
def eRepN (l : EL) (g : EE) : EL := fun env S => (l env S).bind fun xs S => (g env S).bind fun y S => match y with
  | .int k => if (-1000000 ≤ k ∧ k ≤ 1000000) ∧ xs.length * k.toNat ≤ 1000000 then .ok (List.replicate k.toNat xs).flatten S else .stuck
  | _ => .stuck
theorem RpAll.rep {F : Hp} {ι : List Addr} {xs : List D} {vs : List V} (h : RpAll K F ι xs vs) : ∀ n : Nat, RpAll K F ι (List.replicate n xs).flatten (List.replicate n vs).flatten
  | 0 => rfl
  | n + 1 => by
    rw [List.replicate_succ, List.replicate_succ, List.flatten_cons, List.flatten_cons]
    exact h.append (RpAll.rep h n)
theorem n_rep (ha : PE X a (tN K B l)) (hb : PE X b (tD K B g)) : PE X (.BinOp a .Mult b pos) (tN K B (eRepN l g)) := (pe_op op_rep ha hb).imp fun σ H Q ⟨F, ι, S, env, st, ys, S', e, q⟩ => by
  obtain ⟨xs, S1, e1, e⟩ := Res.bind_ok e
  obtain ⟨y, S2, e2, e⟩ := Res.bind_ok e
  refine ⟨F, ι, S, env, st, xs, S1, e1, fun v1 c1 s1 o1 n1 => ?_⟩
  refine ⟨c1.F, c1.ι, S1, env, st.step s1 o1, y, S2, e2, fun v2 c2 s2 o2 r2 => ?_⟩
  split at e
  · rename_i k
    split at e
    · rename_i hz
      cases e
      obtain ⟨p1, w1, ev1, a1, b1, d1, r1, f1, g1⟩ := n1
      have la : LAt c2 p1 (.lst w1) := LAt.step (c := c1) ⟨b1, f1, g1⟩ s2
      have hl : w1.length * k.toNat ≤ sizeLine := by rw [r1.len]; exact sizeM' hz.2
      refine ⟨p1, k, w1, ev1, r2, la.1, by omega, by omega, hl, fun p hp => ?_⟩
      have hl2 : (List.replicate k.toNat w1).flatten.length ≤ sizeLine := by
        rw [List.length_flatten, List.map_replicate, List.sum_replicate_nat, Nat.mul_comm]
        exact hl
      obtain ⟨s3, o3, n3⟩ := new_lst o2 hp hl2 ((s2.rpAll r1).rep k.toNat)
      exact q _ ⟨_, _, _⟩ ((s1.trans s2).trans s3) o3 (n3.from (s1.trans s2))
    · cases e
  · cases e
end
end DL

/-! DL7: list(enumerate(x)), list(zip(x, y)): low. -/
namespace DL
open PySem PySem.W PySem.Calls PyProof.Rows PyProof.V PySem.Spec
open Sem (wp)

abbrev tupO (x y : Value) : Obj := { cls := .type "tuple", data := .seq #[x, y] }
/-- an iterator that gives new pairs, each of which is kept by whoever asked -/
structure LSrc (prog : Program) (w : World) (I S : Addr) (T : String) (wr : List Addr) (n : Nat) (P : Nat → Value → Value → Prop) (St : Nat → Heap → Prop) : Prop where
  frame : ∀ i h h', St i h → (∀ b o, b ≠ S → h.get? b = some o → h'.get? b = some o) → St i h'
  item : ∀ (A : Around), A.handled = none → ∀ (i : Nat) (s : Shared) (Q : Option Value → Shared → Prop) (E : Value → Shared → Prop), i < n → St i s.heap → S < s.heap.objs.size →
    (∀ u v h' tk, P i u v → h'.get? s.heap.objs.size = some (tupO u v) → h'.objs.size = s.heap.objs.size + 1 → St (i + 1) h' → (∀ b o, b ∉ wr → s.heap.get? b = some o → h'.get? b = some o) →
      Q (some (.ref s.heap.objs.size)) { s with heap := h', toks := tk }) → wpAny (model prog w) A (pyNext (.ref I)) Q E s
  done : ∀ (A : Around), A.handled = none → ∀ (s : Shared) (Q : Option Value → Shared → Prop) (E : Value → Shared → Prop), St n s.heap →
    (∀ h' tk, (∀ b o, b ∉ wr → s.heap.get? b = some o → h'.get? b = some o) → Q none { s with heap := h', toks := tk }) → wpAny (model prog w) A (pyNext (.ref I)) Q E s
  self : ∀ (A : Around) (s : Shared) (Q : Value → Shared → Prop) (E : Value → Shared → Prop), St 0 s.heap → Q (.ref I) s → wpAny (model prog w) A (pyIter (.ref I)) Q E s
  ty : ∀ (i : Nat) (s : Shared), St i s.heap → s.TypeIs (.ref I) T
  sw : S ∉ wr
  iw : I ∈ wr
/-- the pairs that have come -/
def Its (lo : Nat) (P : Nat → Value → Value → Prop) (acc : Array Value) (h : Heap) (i : Nat) : Prop :=
  acc.size = i ∧ (∀ (j : Nat) (v : Value), acc[j]? = some v → ∃ a x y, v = .ref a ∧ h.get? a = some (tupO x y) ∧ P j x y ∧ lo ≤ a) ∧ ∀ (j k : Nat) (v : Value), acc[j]? = some v → acc[k]? = some v → j = k
theorem Its.keep {lo : Nat} {P : Nat → Value → Value → Prop} {acc : Array Value} {h h' : Heap} {i : Nat} (x : Its lo P acc h i) (k : ∀ a o, lo ≤ a → h.get? a = some o → h'.get? a = some o) : Its lo P acc h' i :=
  ⟨x.1, fun j v e => let ⟨a, u, w, e1, e2, e3, e4⟩ := x.2.1 j v e; ⟨a, u, w, e1, k a _ e4 e2, e3, e4⟩, x.2.2⟩
section
variable {prog : Program} {w : World} {s : Shared} {R : Result → Shared → Prop} {I S : Addr} {T : String} {wr : List Addr} {n : Nat} {P : Nat → Value → Value → Prop} {St : Nat → Heap → Prop}
theorem lsrc_loop (W : LSrc prog w I S T wr n P St) (hn : n ≤ sizeLine) (res : Value) {A : Around} (hh : A.handled = none) {h₁ : Heap} {lo : Nat} (hS1 : S < lo) (hwr : ∀ b ∈ wr, b < lo)
    (hR : ∀ h' tk acc c, (∀ b o, b ≠ S → b ∉ wr → h₁.get? b = some o → h'.get? b = some o) → h'.get? S = some { cls := .type "list", dict := none, data := .seq acc c, slots := #[] } → Its lo P acc h' n → R (.ok (.ret res)) { s with heap := h', toks := tk }) :
    ∀ (k i : Nat) (h : Heap) (tk c : Nat) (acc : Array Value), n - i = k → i ≤ n → St i h → (∀ b o, b ≠ S → b ∉ wr → h₁.get? b = some o → h.get? b = some o) →
      h.get? S = some { cls := .type "list", dict := none, data := .seq acc c, slots := #[] } → Its lo P acc h i → lo ≤ h.objs.size →
      codeAny (model prog w) A (.builtin "list.extend.loop" ⟨[.ref S, .ref I, res], []⟩) R { s with heap := h, toks := tk } := by
  have apart : ∀ {a : Addr}, lo ≤ a → a ≠ S ∧ a ∉ wr := fun {a} ha => ⟨fun e => by subst e; exact absurd hS1 (Nat.not_lt.mpr ha), fun m => absurd (hwr a m) (Nat.not_lt.mpr ha)⟩
  intro k
  induction k with
  | zero =>
    intro i h tk c acc hk hi hst hkeep hS hacc hlo
    have hin : i = n := by omega
    subst hin
    refine codeAny_builtin PySem.F.entry_extend_loop ?_
    rw [Around.under_plainId PySem.F.plain_extend_loop _]
    show wpAny _ A.in1 (pyNext (.ref I) >>= _) _ _ _
    refine wpAny_bind (W.done A.in1 hh { s with heap := h, toks := tk } _ _ hst fun h' tk' he => ?_)
    exact wpAny_pure (hR h' tk' acc c (fun b o h1 h2 e => he b o h2 (hkeep b o h1 h2 e)) (he S _ W.sw hS) (hacc.keep fun a o ha e => he a o (apart ha).2 e))
  | succ k ih =>
    intro i h tk c acc hk hi hst hkeep hS hacc hlo
    have hlt : i < n := by omega
    refine codeAny_builtin PySem.F.entry_extend_loop ?_
    rw [Around.under_plainId PySem.F.plain_extend_loop _]
    show wpAny _ A.in1 (pyNext (.ref I) >>= _) _ _ _
    refine wpAny_bind (W.item A.in1 hh i { s with heap := h, toks := tk } _ _ hlt hst (Heap.lt_size hS) fun u v h' tk' hP ht hz hst' hkp => ?_)
    have ht : h'.get? h.objs.size = some (tupO u v) := ht
    have hz : h'.objs.size = h.objs.size + 1 := hz
    have hkp : ∀ b o, b ∉ wr → h.get? b = some o → h'.get? b = some o := hkp
    have hS' := hkp S _ W.sw hS
    have up : ∀ b o, b ≠ S → h'.get? b = some o → (h'.update S (Obj.mapSeq (·.push (Value.ref h.objs.size)))).get? b = some o := fun b o hb e => (Heap.get?_update_other _ _ (Ne.symm hb)).trans e
    have hsz : acc.size = i := hacc.1
    have hap := apart hlo
    show wpAny _ A.in1 (updateSeq S (·.push (Value.ref h.objs.size)) >>= _) _ _ _
    refine wpAny_bind ?_
    refine wpAny_updateSeq hS' rfl (wpAny_pure ⟨plainId_quiet PySem.F.plain_extend_loop _, ih (i + 1) _ tk' _ (acc.push (Value.ref h.objs.size)) (by omega) hlt (W.frame _ _ _ hst' up)
      (fun b o h1 h2 e => up b o h1 (hkp b o h2 (hkeep b o h1 h2 e))) (Heap.get?_update_self _ hS' rfl) ⟨by rw [Array.size_push, hsz], fun j v' e => ?_, fun j k v' e e' => ?_⟩ (by rw [Heap.size_update, hz]; exact Nat.le_succ_of_le hlo)⟩) (by rw [hsz]; omega) (by show (acc.push (Value.ref h.objs.size)).size ≤ sizeLine + 1; rw [Array.size_push, hsz]; omega)
    · rw [Array.getElem?_push] at e
      split at e
      · rename_i hj
        cases e
        refine ⟨h.objs.size, u, v, rfl, up _ _ hap.1 ht, ?_, hlo⟩
        rw [hj, hsz]; exact hP
      · obtain ⟨a, x, y, e1, e2, e3, e4⟩ := hacc.2.1 j v' e
        exact ⟨a, x, y, e1, up a _ (apart e4).1 (hkp a _ (apart e4).2 e2), e3, e4⟩
    · have old : ∀ (j : Nat), acc[j]? = some (Value.ref h.objs.size) → False := fun j e => by
        obtain ⟨a, x, y, e1, e2, _, _⟩ := hacc.2.1 j _ e
        cases e1
        exact absurd (Heap.lt_size e2) (Nat.lt_irrefl _)
      rw [Array.getElem?_push] at e e'
      split at e
      · rename_i hj
        cases e
        split at e'
        · rename_i hk'
          rw [hj, hk']
        · exact (old _ e').elim
      · split at e'
        · cases e'
          exact (old _ e).elim
        · exact hacc.2.2 j k v' e e'
variable {A : Around} {E : Value → Shared → Prop}
theorem lsrc_extend (W : LSrc prog w I S T wr n P St) (hl : typeLookup (.type T) "__len__" = pure none) (hn0 : typeLookup (.type T) "__length_hint__" = pure none) (h2 : (Value.type T == Value.type "list") = false) (h3 : (Value.type T == Value.type "tuple") = false)
    (hh : A.handled = none) (hn : n ≤ sizeLine) (res : Value) (c₀ : Nat) (hst : St 0 s.heap) (hwr : ∀ b ∈ wr, b < s.heap.objs.size) (hS : s.heap.get? S = some { cls := .type "list", data := .seq #[] c₀ })
    (hR : ∀ h' tk acc c, (∀ b o, b ≠ S → b ∉ wr → s.heap.get? b = some o → h'.get? b = some o) → h'.get? S = some { cls := .type "list", dict := none, data := .seq acc c, slots := #[] } → Its s.heap.objs.size P acc h' n → R (.ok (.ret res)) { s with heap := h', toks := tk }) :
    wpAny (model prog w) A.in1 (Builtin.List.listExtendWith (.ref S) (.ref I) res)
      (fun fin s' => match fin with | .done f => R (.ok f) s' | .again c' => c'.quiet = true ∧ codeAny (model prog w) A c' R s') (fun e s' => R (.error e) s') s := by
  have hSI : S ≠ I := fun e => W.sw (e ▸ W.iw)
  unfold Builtin.List.listExtendWith
  refine wpAny_bind (wpAny_typeOf (W.ty 0 _ hst) ?_)
  have h1 : Builtin.List.listSameRef (.ref S) (.ref I) = false := by simp [Builtin.List.listSameRef, hSI]
  simp only [h1, h2, h3, Bool.or_false, Bool.false_eq_true, if_false]
  refine wpAny_bind (W.self _ _ _ _ hst ?_)
  refine wpAny_bind (wpAny_holding ?_)
  unfold Builtin.List.listLengthHint
  refine wpAny_bind (wpAny_specialOf (W.ty 0 _ hst) hl ?_)
  show wpAny _ A.in1 (specialOf (Value.ref I) (Str.ofString "__length_hint__") >>= _) _ _ _
  refine wpAny_bind (wpAny_specialOf (W.ty 0 _ hst) hn0 ?_)
  refine wpAny_pure ?_
  show wpAny _ A.in1 (rule "list.extend.makes-room" >>= fun _ => Builtin.List.listTouch (.ref S) >>= fun _ =>
    again (.builtin "list.extend.loop" ⟨[.ref S, .ref I, res], []⟩)) _ _ _
  refine wpAny_bind (wpAny_rule ?_)
  refine wpAny_bind ?_
  show wpAny _ A.in1 (updateSeq S (·.push .none) >>= fun _ => updateSeq S (·.pop)) _ _ _
  refine wpAny_bind (wpAny_updateSeq hS rfl ?_)
  have hS₂ := Heap.get?_update_self (Obj.mapSeq (·.push Value.none)) hS rfl
  refine wpAny_updateSeq (hz := by seq_fits) hS₂ rfl ?_
  have hS₃ := Heap.get?_update_self (Obj.mapSeq (·.pop)) hS₂ rfl
  have oth : ∀ b o, b ≠ S → s.heap.get? b = some o → ((s.heap.update S (Obj.mapSeq (·.push Value.none))).update S (Obj.mapSeq (·.pop))).get? b = some o :=
    fun b o hb e => (Heap.get?_update_other _ _ (Ne.symm hb)).trans ((Heap.get?_update_other _ _ (Ne.symm hb)).trans e)
  refine wpAny_pure ⟨plainId_quiet PySem.F.plain_extend_loop _, lsrc_loop (s := s) (h₁ := s.heap) (lo := s.heap.objs.size) W hn res hh (Heap.lt_size hS) hwr hR n 0 _ s.toks _ _ rfl (Nat.zero_le _)
    (W.frame 0 _ _ hst oth) (fun b o hb _ e => oth b o hb e) hS₃ ⟨rfl, fun j v e => (by simp at e), fun j k v e => (by simp at e)⟩ (by rw [Heap.size_update, Heap.size_update]; exact Nat.le_refl _)⟩
theorem lsrc_init (W : LSrc prog w I S T wr n P St) (hl : typeLookup (.type T) "__len__" = pure none) (hn0 : typeLookup (.type T) "__length_hint__" = pure none) (h2 : (Value.type T == Value.type "list") = false) (h3 : (Value.type T == Value.type "tuple") = false)
    (hh : A.handled = none) (hn : n ≤ sizeLine) (hst : St 0 s.heap) (hwr : ∀ b ∈ wr, b < s.heap.objs.size) (hS : s.heap.get? S = some { cls := .type "list", data := .seq #[] })
    (hR : ∀ h' tk acc c, (∀ b o, b ≠ S → b ∉ wr → s.heap.get? b = some o → h'.get? b = some o) → h'.get? S = some { cls := .type "list", dict := none, data := .seq acc c, slots := #[] } → Its s.heap.objs.size P acc h' n → R (.ok (.ret .none)) { s with heap := h', toks := tk }) :
    wpAny (model prog w) A.in1 (Builtin.«list.__init__» ⟨[.ref S, .ref I], []⟩)
      (fun fin s' => match fin with | .done f => R (.ok f) s' | .again c' => c'.quiet = true ∧ codeAny (model prog w) A c' R s') (fun e s' => R (.error e) s') s := by
  show wpAny _ A.in1 (do let old ← Builtin.List.listItems (.ref S); Builtin.List.listUpdate (.ref S) (fun _ => #[]); letGo old.toList.reverse; Builtin.List.listExtendWith (.ref S) (.ref I) .none) _ _ s
  refine wpAny_bind ?_
  unfold Builtin.List.listItems
  refine wpAny_bind (wpAny_seqItems hS rfl (wpAny_pure ?_))
  show wpAny _ A.in1 (updateSeq S (fun _ => #[]) >>= fun _ => letGo (#[] : Array Value).toList.reverse >>= fun _ => Builtin.List.listExtendWith (.ref S) (.ref I) .none) _ _ s
  refine wpAny_bind (wpAny_updateSeq hS rfl ?_)
  have hS₂ := Heap.get?_update_self (Obj.mapSeq (fun _ => (#[] : Array Value))) hS rfl
  have oth : ∀ b o, b ≠ S → s.heap.get? b = some o → (s.heap.update S (Obj.mapSeq (fun _ => (#[] : Array Value)))).get? b = some o :=
    fun b o hb e => (Heap.get?_update_other _ _ (Ne.symm hb)).trans e
  refine wpAny_bind (wpAny_letGo ?_)
  refine lsrc_extend W hl hn0 h2 h3 hh hn .none _ (W.frame 0 _ _ hst oth) (fun b hb => by rw [Heap.size_update]; exact hwr b hb) hS₂ fun h' tk acc c hk hS' hI => ?_
  have e : (s.heap.update S (Obj.mapSeq (fun _ => (#[] : Array Value)))).objs.size = s.heap.objs.size := Heap.size_update ..
  have hI' : Its (s.heap.update S (Obj.mapSeq (fun _ => (#[] : Array Value)))).objs.size P acc h' n := hI
  rw [e] at hI'
  exact hR h' tk acc c (fun b o hb hw x => hk b o hb hw (oth b o hb x)) hS' hI'
/-- list(it) -/
theorem lsrc_call {Q : Value → Shared → Prop} (W : LSrc prog w I s.heap.objs.size T wr n P St) (hl : typeLookup (.type T) "__len__" = pure none) (hn0 : typeLookup (.type T) "__length_hint__" = pure none) (h2 : (Value.type T == Value.type "list") = false) (h3 : (Value.type T == Value.type "tuple") = false)
    (hh : A.handled = none) (hn : n ≤ sizeLine) (hst : St 0 s.heap) (hwr : ∀ b ∈ wr, b < s.heap.objs.size)
    (hQ : ∀ h' tk acc c, (∀ b o, b ∉ wr → s.heap.get? b = some o → h'.get? b = some o) → h'.get? s.heap.objs.size = some { cls := .type "list", dict := none, data := .seq acc c, slots := #[] } → Its (s.heap.objs.size + 1) P acc h' n → Q (.ref s.heap.objs.size) { s with heap := h', toks := tk }) :
    wpAny (model prog w) A (call (.type "list") [.ref I]) Q E s := by
  refine callType_codes (Q₁ := fun obj s₁ => obj = .ref s.heap.objs.size ∧ s₁ = { s with heap := s.heap.push { cls := .type "list", data := .seq #[] } }) PySem.F.called_list (PySem.F.typeCall_list_1 _) PySem.F.entry_list_init
    (code_list_new _ ⟨rfl, rfl⟩) fun obj s₁ h₁ => ?_
  obtain ⟨rfl, rfl⟩ := h₁
  have hS : (s.heap.push { cls := .type "list", data := .seq #[] }).get? s.heap.objs.size = some { cls := .type "list", data := .seq #[] } := Heap.get?_push_size _ rfl
  have hsz : (s.heap.push { cls := .type "list", data := .seq #[] }).objs.size = s.heap.objs.size + 1 := Heap.size_push ..
  refine ⟨⟨_, hS, rfl⟩, PySem.F.args_list_init_2 _ _, lsrc_init (A := A.in1) W hl hn0 h2 h3 hh hn (W.frame 0 _ _ hst fun b o _ e => Heap.get?_push_of_some _ e) (fun b hb => by show b < (s.heap.push _).objs.size; rw [hsz]; exact Nat.lt_succ_of_lt (hwr b hb)) hS fun h' tk acc c hk hS' hI => ?_⟩
  have hI' : Its (s.heap.push { cls := .type "list", data := .seq #[] }).objs.size P acc h' n := hI
  rw [hsz] at hI'
  exact ⟨rfl, hQ h' tk acc c (fun b o hw e => hk b o (Nat.ne_of_lt (Heap.lt_size e)) hw (Heap.get?_push_of_some _ e)) hS' hI'⟩
end

/-! ### enumerate, whose last pair is still held -/
abbrev EnOut (h : Heap) (e it : Addr) (i : Int) (item : Value) (a : Addr) (f : Bool) : Prop :=
  h.get? e = some { cls := .type "enumerate", dict := none, data := .fields #[rawInt a, .bool f, .ref it, rawInt i, .none, item], slots := #[] }
section
variable {prog : Program} {w : World} {A : Around} {E : Value → Shared → Prop} {s : Shared}
theorem enum_next_out {e it a : Addr} {f : Bool} {oa : Obj} {fp : List Addr} {n i : Nat} {P : Nat → Value → Prop} {St : Nat → Heap → Prop} {old : Value} {Q : Value → Shared → Prop}
    (D : Draws prog w A it fp n P St) (he : EnOut s.heap e it i old a f) (ha : s.heap.get? a = some oa) (hae : a ≠ e) (hai : a ≠ it) (hst : St i s.heap) (hlt : i < n) (hne : e ≠ it) (hef : e ∉ fp)
    (hQ : ∀ x h' tk, P i x → EnOut h' e it ((i : Int) + 1) old a true → St (i + 1) h' →
      h'.get? s.heap.objs.size = some { cls := .type "tuple", data := .seq #[.int i tk, x] } → h'.objs.size = s.heap.objs.size + 1 →
      (∀ b o, b ≠ e → b ≠ it → s.heap.get? b = some o → h'.get? b = some o) → Q (.ref s.heap.objs.size) { s with heap := h', toks := tk + 1 }) :
    wpAny (model prog w) A (Builtin.«enumerate.__next__» ⟨[.ref e], []⟩) (fun fin s' => ∃ v, fin = .done (.ret v) ∧ Q v s') E s := by
  obtain ⟨hp, g, d, tk₀, os⟩ := s
  show wpAny _ _ (field (.ref e) 2 >>= _) _ _ _
  refine wpAny_bind (wpAny_field he rfl (x := .ref it) rfl ?_)
  refine wpAny_bind (D.item i _ _ _ hlt hst fun x h₁ tk hPx hit₁ hs₁ => ?_)
  replace hs₁ : Heap.SameBut it hp h₁ := hs₁
  have he₁ : EnOut h₁ e it i old a f := (hs₁.2 e hne).trans he
  show wpAny _ _ (field (.ref e) 3 >>= _) _ _ ⟨h₁, g, d, tk, os⟩
  refine wpAny_bind (wpAny_field he₁ rfl (x := rawInt i) rfl ?_)
  show wpAny _ _ (field (.ref e) 4 >>= _) _ _ ⟨h₁, g, d, tk, os⟩
  refine wpAny_bind (wpAny_field he₁ rfl (x := .none) rfl ?_)
  show wpAny _ _ (mkInt i >>= _) _ _ ⟨h₁, g, d, tk, os⟩
  refine wpAny_bind (wpAny_mkInt ?_)
  show wpAny _ _ (setField (.ref e) 3 (rawInt ((i : Int) + 1)) >>= _) _ _ ⟨h₁, g, d, tk + 1, os⟩
  refine wpAny_bind (wpAny_setField_rec he₁ (by simp) fun h₂ he₂ hs₂ => ?_)
  replace hs₂ : Heap.SameBut e h₁ h₂ := hs₂
  replace he₂ : EnOut h₂ e it ((i : Int) + 1) old a f := he₂
  show wpAny _ _ (setField (.ref e) 4 .none >>= _) _ _ ⟨h₂, g, d, tk + 1, os⟩
  refine wpAny_bind (wpAny_setField_rec he₂ (by simp) fun h₃ he₃ hs₃ => ?_)
  replace hs₃ : Heap.SameBut e h₂ h₃ := hs₃
  replace he₃ : EnOut h₃ e it ((i : Int) + 1) old a f := he₃
  show wpAny _ _ (newTuple [.int i tk, x] >>= _) _ _ ⟨h₃, g, d, tk + 1, os⟩
  refine wpAny_bind (wpAny_newTuple ?_)
  have he₄ : EnOut (h₃.push { cls := .type "tuple", data := .seq #[.int i tk, x] }) e it ((i : Int) + 1) old a f := Heap.get?_push_of_some _ he₃
  generalize hh₄ : h₃.push { cls := .type "tuple", data := .seq #[.int i tk, x] } = h₄ at he₄
  have hsz : h₃.objs.size = hp.objs.size := by rw [hs₃.1, hs₂.1, hs₁.1]
  have hel : e < hp.objs.size := Heap.lt_size he
  have ht₄ : h₄.get? hp.objs.size = some { cls := .type "tuple", data := .seq #[.int i tk, x] } := by rw [← hh₄, ← hsz]; exact Heap.get?_push_size _ rfl
  have hz₄ : h₄.objs.size = hp.objs.size + 1 := by rw [← hh₄, Heap.size_push, hsz]
  have hk₄ : ∀ b o, b ≠ e → b ≠ it → hp.get? b = some o → h₄.get? b = some o := fun b o hbe hbi hb => by
    rw [← hh₄]; exact Heap.get?_push_of_some _ (hs₃.extBut b o hbe (hs₂.extBut b o hbe (hs₁.extBut b o hbi hb)))
  have hit₄ : St (i + 1) h₄ := D.frame _ _ _ hit₁ fun b hb o y => by
    have hbe : b ≠ e := fun q => hef (q ▸ hb)
    rw [← hh₄]; exact Heap.get?_push_of_some _ (hs₃.extBut b o hbe (hs₂.extBut b o hbe y))
  show wpAny _ _ (Builtin.SmallTypes.ownedTupleIsFree (.ref e) >>= _) _ _ ⟨h₄, g, d, tk + 1, os⟩
  rw [hsz]
  clear hh₄ he₃ hs₃ he₂ hs₂ he₁ hs₁ hit₁ hsz h₃ h₂ h₁
  have ha₄ : h₄.get? a = some oa := hk₄ a oa hae hai ha
  have fin : ∀ h₅ : Heap, EnOut h₅ e it ((i : Int) + 1) old a true → Heap.SameBut e h₄ h₅ → Q (.ref hp.objs.size) ⟨h₅, g, d, tk + 1, os⟩ := fun h₅ he₅ hs₅ =>
    hQ x h₅ tk hPx he₅ (D.frame _ _ _ hit₄ fun b hb o y => hs₅.extBut b o (fun q => hef (q ▸ hb)) y) (hs₅.extBut _ _ (Nat.ne_of_gt hel) ht₄) (by show h₅.objs.size = hp.objs.size + 1; rw [hs₅.1, hz₄]) fun b o hbe hbi hb => hs₅.extBut b o hbe (hk₄ b o hbe hbi hb)
  refine wpAny_bind ?_
  unfold Builtin.SmallTypes.ownedTupleIsFree
  refine wpAny_bind (wpAny_field he₄ rfl (x := rawInt a) rfl ?_)
  show wpAny _ _ (loadIfAlive ((a : Int).toNat) >>= _) _ _ _
  rw [Int.toNat_natCast]
  refine wpAny_bind (kdx_alive ha₄ ?_)
  simp only [Option.isNone_some, Bool.false_eq_true, if_false]
  refine wpAny_bind (wpAny_field he₄ rfl (x := .bool f) rfl ?_)
  cases f with
  | true =>
    rw [if_neg (show ¬ ((Value.bool true != Value.bool true) = true) from Bool.false_ne_true)]
    refine wpAny_pure ?_
    simp only [Bool.false_eq_true, if_false]
    exact wpAny_pure ⟨_, rfl, fin h₄ he₄ (Heap.SameBut.refl _ _)⟩
  | false =>
    rw [if_pos (show (Value.bool false != Value.bool true) = true from rfl)]
    refine wpAny_bind (wpAny_setField_rec he₄ (by simp) fun h₅ he₅ hs₅ => ?_)
    replace hs₅ : Heap.SameBut e h₄ h₅ := hs₅
    replace he₅ : EnOut h₅ e it ((i : Int) + 1) old a true := he₅
    refine wpAny_pure ?_
    simp only [Bool.false_eq_true, if_false]
    exact wpAny_pure ⟨_, rfl, fin h₅ he₅ hs₅⟩
theorem pyNext_enum_out {e it a : Addr} {f : Bool} {oa : Obj} {fp : List Addr} {n i : Nat} {P : Nat → Value → Prop} {St : Nat → Heap → Prop} {old : Value} {Q : Option Value → Shared → Prop}
    (D : Draws prog w A.in1 it fp n P St) (he : EnOut s.heap e it i old a f) (ha : s.heap.get? a = some oa) (hae : a ≠ e) (hai : a ≠ it) (hst : St i s.heap) (hlt : i < n) (hne : e ≠ it) (hef : e ∉ fp)
    (hQ : ∀ x h' tk, P i x → EnOut h' e it ((i : Int) + 1) old a true → St (i + 1) h' →
      h'.get? s.heap.objs.size = some { cls := .type "tuple", data := .seq #[.int i tk, x] } → h'.objs.size = s.heap.objs.size + 1 →
      (∀ b o, b ≠ e → b ≠ it → s.heap.get? b = some o → h'.get? b = some o) → Q (some (.ref s.heap.objs.size)) { s with heap := h', toks := tk + 1 }) :
    wpAny (model prog w) A (pyNext (.ref e)) Q E s := by
  have hT : s.TypeIs (.ref e) "enumerate" := ⟨_, he, rfl⟩
  unfold pyNext
  exact wpAny_bind (wpAny_attempt (wpAny_callSpecial?_slot (name := Str.ofString "__next__") hT F.slot_enumerate_next
    (wpAny_call_entry F.slot_enumerate_next hT F.entry_enumerate_next
      (enum_next_out D he ha hae hai hst hlt hne hef fun x h' tk a b c d k q => wpAny_pure (hQ x h' tk a b c d k q)) (F.args_enumerate_next_1 _))))
theorem pyNext_enum_out_end {e it a : Addr} {f : Bool} {fp : List Addr} {n : Nat} {P : Nat → Value → Prop} {St : Nat → Heap → Prop} {i : Int} {old : Value} {Q : Option Value → Shared → Prop}
    (D : Draws prog w A.in1 it fp n P St) (he : EnOut s.heap e it i old a f) (hst : St n s.heap)
    (hQ : ∀ h', Heap.ExtBut it s.heap h' → Q none { s with heap := h' }) : wpAny (model prog w) A (pyNext (.ref e)) Q E s := by
  have hT : s.TypeIs (.ref e) "enumerate" := ⟨_, he, rfl⟩
  unfold pyNext
  refine wpAny_bind (wpAny_attempt (wpAny_callSpecial?_slot (name := Str.ofString "__next__") hT F.slot_enumerate_next
    (wpAny_call_entry F.slot_enumerate_next hT F.entry_enumerate_next ?_ (F.args_enumerate_next_1 _))))
  show wpAny _ _ (field (.ref e) 2 >>= _) _ _ _
  refine wpAny_bind (wpAny_field he rfl (x := .ref it) rfl ?_)
  refine wpAny_bind (D.done _ _ _ hst fun h' x he' hx' => ?_)
  obtain ⟨o, ho, hc⟩ := hx'
  refine wpAny_bind (wpAny_isInstance (T := "StopIteration") (b := true) ⟨o, ho, hc⟩ isSubtype_stop ?_)
  exact wpAny_pure (hQ _ he')
end
end DL

/-! DL8: list(enumerate(x)), list(zip(x, y)). -/
namespace DL
open PySem PySem.Spec PyProof.Rows L2
section
variable {prog : Program} {w : World}
theorem en_nolen : typeLookup (.type "enumerate") "__len__" = pure none := by rw [typeLookup_type, builtinLookup_eq_fast]; kernel_rfl
theorem en_nohint : typeLookup (.type "enumerate") "__length_hint__" = pure none := by rw [typeLookup_type, builtinLookup_eq_fast]; kernel_rfl
theorem zi_nolen : typeLookup (.type "zip") "__len__" = pure none := by rw [typeLookup_type, builtinLookup_eq_fast]; kernel_rfl
theorem zi_nohint : typeLookup (.type "zip") "__length_hint__" = pure none := by rw [typeLookup_type, builtinLookup_eq_fast]; kernel_rfl
theorem lsrc_enum {e it S l : Addr} (items : Array Value) (hei : e ≠ it) (hle : l ≠ e) (hli : l ≠ it) (hSe : S ≠ e) (hSi : S ≠ it) (hSl : S ≠ l) :
    LSrc prog w e S "enumerate" [e, it] items.size (fun i u v => (∃ t, u = .int (i : Nat) t) ∧ items[i]? = some v)
      (fun i h => h.IsListIter it l i ∧ h.IsList l items ∧ ((∃ old, IsEnum h e it (i : Nat) old) ∨ 0 < i ∧ ∃ old T f oT, IsEnumHeld h e it (i : Nat) old T f ∧ h.get? T = some oT ∧ T ≠ e ∧ T ≠ it ∧ T ≠ S)) where
  frame := fun i h h' st hk => by
    obtain ⟨hit, hl, he⟩ := st
    refine ⟨hit.at fun o x => hk _ o (Ne.symm hSi) x, hl.at fun o x => hk _ o (Ne.symm hSl) x, ?_⟩
    rcases he with ⟨old, he⟩ | ⟨hi, old, T, f, oT, he, hT, r1, r2, r3⟩
    · exact .inl ⟨old, hk _ _ (Ne.symm hSe) he⟩
    · exact .inr ⟨hi, old, T, f, oT, hk _ _ (Ne.symm hSe) he, hk _ _ r3 hT, r1, r2, r3⟩
  item := fun A hA i s₁ Q₁ E₁ hi st hds hQ => by
    obtain ⟨hit, hl, he⟩ := st
    have ex := Array.getElem?_eq_getElem hi
    have ec : ((i + 1 : Nat) : Int) = (i : Int) + 1 := by omega
    have nit : s₁.heap.objs.size ≠ it := let ⟨_, x, _⟩ := hit; Nat.ne_of_gt (Heap.lt_size x)
    rcases he with ⟨old, he⟩ | ⟨_, old, T, f, oT, he, hT, r1, r2, r3⟩
    · refine wpAny_pyNext_enum_item he hit hl ex hei fun h' ho hit' hT hsz hk => ?_
      exact hQ _ _ h' (s₁.toks + 1) ⟨⟨_, rfl⟩, ex⟩ hT hsz
        ⟨hit', hl.at fun o x => hk l o hle hli x, .inr ⟨Nat.succ_pos _, _, s₁.heap.objs.size, false, _, (by rw [ec]; exact ho), hT, Nat.ne_of_gt (Heap.lt_size he), nit, Nat.ne_of_gt hds⟩⟩
        fun b o hb x => hk b o (fun y => hb (by simp [y])) (fun y => hb (by simp [y])) x
    · refine wpAny_pyNext_enum_item_held he hT r1 r2 hit hl ex hei fun h' ho hit' hT' hsz hk => ?_
      exact hQ _ _ h' (s₁.toks + 1) ⟨⟨_, rfl⟩, ex⟩ hT' hsz
        ⟨hit', hl.at fun o x => hk l o hle hli x, .inr ⟨Nat.succ_pos _, old, T, true, oT, (by rw [ec]; exact ho), hk _ _ r1 r2 hT, r1, r2, r3⟩⟩
        fun b o hb x => hk b o (fun y => hb (by simp [y])) (fun y => hb (by simp [y])) x
  done := fun A hA s₁ Q₁ E₁ st hQ => by
    obtain ⟨hit, hl, he⟩ := st
    have hx : items[items.size]? = none := Array.getElem?_eq_none (Nat.le_refl _)
    rcases he with ⟨old, he⟩ | ⟨_, old, T, f, oT, he, hT, r1, r2, r3⟩
    · exact wpAny_pyNext_enum_end hA he hit hl hx fun h' hk => hQ h' s₁.toks fun b o hb x => hk b o (fun y => hb (by simp [y])) x
    · exact wpAny_pyNext_enum_end_held hA he hit hl hx fun h' hk => hQ h' s₁.toks fun b o hb x => hk b o (fun y => hb (by simp [y])) x
  self := fun A s₁ Q₁ E₁ st hQ => by
    obtain ⟨hit, hl, he⟩ := st
    rcases he with ⟨old, he⟩ | ⟨hi, _⟩
    · exact wpAny_pyIter_enum he hQ
    · exact absurd hi (Nat.lt_irrefl _)
  ty := fun i s₁ st => by
    obtain ⟨hit, hl, he⟩ := st
    rcases he with ⟨old, he⟩ | ⟨_, old, T, f, oT, he, _⟩
    · exact ⟨_, he, rfl⟩
    · exact ⟨_, he, rfl⟩
  sw := fun hm => by
    simp only [List.mem_cons, List.not_mem_nil, or_false] at hm
    rcases hm with x | x
    · exact hSe x
    · exact hSi x
  iw := List.mem_cons_self
theorem lsrc_zip {z TI TO i1 i2 S l1 l2 : Addr} (D : ZipApart z TI TO i1 i2 l1 l2) (xs ys : Array Value) (dz : S ≠ z) (dTI : S ≠ TI) (dTO : S ≠ TO) (di1 : S ≠ i1) (di2 : S ≠ i2) (dl1 : S ≠ l1) (dl2 : S ≠ l2) :
    LSrc prog w z S "zip" [z, TO, i1, i2] (min xs.size ys.size) (fun i u v => xs[i]? = some u ∧ ys[i]? = some v)
      (fun i h => IsPair h TI (.ref i1) (.ref i2) ∧ h.IsListIter i1 l1 i ∧ h.IsListIter i2 l2 i ∧ h.IsList l1 xs ∧ h.IsList l2 ys ∧
        ((IsZip h z TI TO .none ∧ ∃ a b, IsPair h TO a b) ∨ 0 < i ∧ ∃ T f oT, IsZipHeld h z TI TO T f ∧ h.get? T = some oT ∧ T ≠ z ∧ T ≠ i1 ∧ T ≠ i2 ∧ T ≠ S)) where
  frame := fun i h₁ h₂ st hk => by
    obtain ⟨hTI, h1, h2, hl1, hl2, hz⟩ := st
    refine ⟨hk _ _ (Ne.symm dTI) hTI, h1.at fun o e => hk _ o (Ne.symm di1) e, h2.at fun o e => hk _ o (Ne.symm di2) e, hl1.at fun o e => hk _ o (Ne.symm dl1) e, hl2.at fun o e => hk _ o (Ne.symm dl2) e, ?_⟩
    rcases hz with ⟨hz, a, b, hTO⟩ | ⟨hi, T, f, oT, hz, hT, r1, r2, r3, r4⟩
    · exact .inl ⟨hk _ _ (Ne.symm dz) hz, a, b, hk _ _ (Ne.symm dTO) hTO⟩
    · exact .inr ⟨hi, T, f, oT, hk _ _ (Ne.symm dz) hz, hk _ _ r4 hT, r1, r2, r3, r4⟩
  item := fun A hA i s₁ Q₁ E₁ hi st hds hQ => by
    obtain ⟨hTI, h1, h2, hl1, hl2, hz⟩ := st
    have hix : i < xs.size := Nat.lt_of_lt_of_le hi (Nat.min_le_left ..)
    have hiy : i < ys.size := Nat.lt_of_lt_of_le hi (Nat.min_le_right ..)
    have ex := Array.getElem?_eq_getElem hix
    have ey := Array.getElem?_eq_getElem hiy
    have n1 : s₁.heap.objs.size ≠ i1 := let ⟨_, x, _⟩ := h1; Nat.ne_of_gt (Heap.lt_size x)
    have n2 : s₁.heap.objs.size ≠ i2 := let ⟨_, x, _⟩ := h2; Nat.ne_of_gt (Heap.lt_size x)
    rcases hz with ⟨hz, a, b, hTO⟩ | ⟨_, T, f, oT, hz, hT, r1, r2, r3, r4⟩
    · refine wpAny_pyNext_zip_item D hz hTI hTO h1 h2 hl1 hl2 ex ey fun h' a1 a2 a3 a4 a5 a6 hk => ?_
      exact hQ _ _ h' s₁.toks ⟨ex, ey⟩ a5 a6
        ⟨hk _ _ D.TIz D.TITO D.TIi1 D.TIi2 hTI, a3, a4, hl1.at fun o e => hk _ o D.l1z D.l1TO D.l1i1 D.l1i2 e, hl2.at fun o e => hk _ o D.l2z D.l2TO D.l2i1 D.l2i2 e,
          .inr ⟨Nat.succ_pos _, s₁.heap.objs.size, false, _, a1, a5, Nat.ne_of_gt (Heap.lt_size hz), n1, n2, Nat.ne_of_gt hds⟩⟩
        fun c o hc e => hk c o (fun x => hc (by simp [x])) (fun x => hc (by simp [x])) (fun x => hc (by simp [x])) (fun x => hc (by simp [x])) e
    · refine wpAny_pyNext_zip_item_held D hz hT hTI h1 h2 hl1 hl2 ex ey fun h' a1 a3 a4 a5 a6 hk => ?_
      exact hQ _ _ h' s₁.toks ⟨ex, ey⟩ a5 a6
        ⟨hk _ _ D.TIz D.TIi1 D.TIi2 hTI, a3, a4, hl1.at fun o e => hk _ o D.l1z D.l1i1 D.l1i2 e, hl2.at fun o e => hk _ o D.l2z D.l2i1 D.l2i2 e,
          .inr ⟨Nat.succ_pos _, T, true, oT, a1, hk _ _ r1 r2 r3 hT, r1, r2, r3, r4⟩⟩
        fun c o hc e => hk c o (fun x => hc (by simp [x])) (fun x => hc (by simp [x])) (fun x => hc (by simp [x])) e
  done := fun A hA s₁ Q₁ E₁ st hQ => by
    obtain ⟨hTI, h1, h2, hl1, hl2, hz⟩ := st
    have hend : xs[min xs.size ys.size]? = none ∨ ys[min xs.size ys.size]? = none := by
      rcases Nat.le_total xs.size ys.size with h | h
      · exact .inl (Array.getElem?_eq_none (by rw [Nat.min_eq_left h]; exact Nat.le_refl _))
      · exact .inr (Array.getElem?_eq_none (by rw [Nat.min_eq_right h]; exact Nat.le_refl _))
    rcases hz with ⟨hz, a, b, hTO⟩ | ⟨_, T, f, oT, hz, hT, r1, r2, r3, r4⟩
    · exact wpAny_pyNext_zip_end hA D hz hTI hTO h1 h2 hl1 hl2 hend fun h' hk => hQ h' s₁.toks fun c o hc e => hk c o (fun x => hc (by simp [x])) (fun x => hc (by simp [x])) (fun x => hc (by simp [x])) (fun x => hc (by simp [x])) e
    · exact wpAny_pyNext_zip_end_held hA D hz hT hTI h1 h2 hl1 hl2 hend fun h' hk => hQ h' s₁.toks fun c o hc e => hk c o (fun x => hc (by simp [x])) (fun x => hc (by simp [x])) (fun x => hc (by simp [x])) e
  self := fun A s₁ Q₁ E₁ st hQ => by
    obtain ⟨_, _, _, _, _, he⟩ := st
    rcases he with ⟨he, _⟩ | ⟨hi, _⟩
    · exact wpAny_pyIter_zip he hQ
    · exact absurd hi (Nat.lt_irrefl _)
  ty := fun i s₁ st => by
    obtain ⟨_, _, _, _, _, he⟩ := st
    rcases he with ⟨he, _⟩ | ⟨_, T, f, oT, he, _⟩
    · exact ⟨_, he, rfl⟩
    · exact ⟨_, he, rfl⟩
  sw := fun hm => by
    simp only [List.mem_cons, List.not_mem_nil, or_false] at hm
    rcases hm with e | e | e | e
    · exact dz e
    · exact dTO e
    · exact di1 e
    · exact di2 e
  iw := List.mem_cons_self
end

/-! ### many new tuples -/
def layP (H : Hp) : List (Addr × V × V) → Hp
  | [] => H
  | p :: L => upd (layP H L) p.1 (.tup [p.2.1, p.2.2])
theorem layP_ne {H : Hp} {a : Addr} : ∀ {L : List (Addr × V × V)}, a ∉ L.map Prod.fst → layP H L a = H a
  | [], _ => rfl
  | p :: L, h => by
    rw [List.map_cons, List.mem_cons, not_or] at h
    show upd (layP H L) p.1 _ a = _
    rw [upd_ne h.1, layP_ne h.2]
theorem layP_mem {H : Hp} {p : Addr × V × V} : ∀ {L : List (Addr × V × V)}, (L.map Prod.fst).Nodup → p ∈ L → layP H L p.1 = some (.tup [p.2.1, p.2.2])
  | q :: L, hn, h => by
    rw [List.map_cons, List.nodup_cons] at hn
    show upd (layP H L) q.1 _ p.1 = _
    rcases List.mem_cons.mp h with e | e
    · rw [e, upd_same]
    · rw [upd_ne (fun z => hn.1 (by rw [← z]; exact List.mem_map.mpr ⟨p, e, rfl⟩)), layP_mem hn.2 e]
theorem layP_some {H : Hp} {a : Addr} {o : HO} : ∀ {L : List (Addr × V × V)}, (L.map Prod.fst).Nodup → layP H L a = some o → H a = some o ∨ ∃ p ∈ L, p.1 = a ∧ o = .tup [p.2.1, p.2.2]
  | [], _, h => .inl h
  | q :: L, hn, h => by
    rw [List.map_cons, List.nodup_cons] at hn
    have h' : upd (layP H L) q.1 (.tup [q.2.1, q.2.2]) a = some o := h
    by_cases e : a = q.1
    · subst e
      rw [upd_same] at h'
      cases h'
      exact .inr ⟨q, List.mem_cons_self, rfl, rfl⟩
    · rw [upd_ne e] at h'
      rcases layP_some hn.2 h' with r | ⟨p, hp, r1, r2⟩
      · exact .inl r
      · exact .inr ⟨p, List.mem_cons_of_mem _ hp, r1, r2⟩
section
variable {X : Cx} {pins : List (Addr × Obj)} {σ : St} {H : Hp} {s : Shared} {h' : Heap}
/-- new objects laid and tracked, all at once -/
theorem _root_.L2.Inv.ext {H2 : Hp} {t' : Nat} (I : Inv X pins σ H s) (k : ∀ b u, s.heap.get? b = some u → h'.get? b = some u) (old : ∀ b o, H b = some o → H2 b = some o)
    (new : ∀ b o, H2 b = some o → H b = some o ∨ (s.heap.objs.size ≤ b ∧ ObjOk X.prog X.w H2 h' b o)) : Inv X pins σ H2 { s with heap := h', toks := t' } := by
  refine I.un ⟨fun b u q _ _ _ => k b u q, fun b u q _ _ _ => ⟨u.slots, k b u q⟩, fun b u q n _ => ?_, fun b u q _ => ⟨u, k b u q⟩, fun b xs q => old b _ q, fun b u xs q => old b _ q, fun b ps q => ⟨#[], by rw [old b _ q]; simp⟩⟩ ?_
  · cases e : H2 b with
    | none => rfl
    | some o =>
      rcases new b o e with r | ⟨r, _⟩
      · rw [n] at r; cases r
      · exact absurd (Heap.lt_size q) (Nat.not_lt.mpr r)
  · intro b u e
    rcases new b u e with r | ⟨_, r⟩
    · exact (I.hok b u r).stay (fun c v _ q => k c v q) (fun c q => old c _ q) fun c xs q => old c _ q
    · exact r
end
/-- a new list of new pairs -/
def tPairs (ps : List (V × V)) (H1 : Hp) (Q : VK) : Prop := ps.length ≤ sizeLine ∧ ∀ (as : List Addr) (S : Addr), as.length = ps.length → as.Nodup → (∀ b ∈ as, H1 b = none) → S ∉ as → H1 S = none →
  Q (.ref S) (upd (layP H1 (as.zip ps)) S (.lst (as.map V.ref)))
def adr : Value → Addr
  | .ref a => a
  | _ => 0
theorem laid_pairs {X : Cx} {pins : List (Addr × Obj)} {σ : St} {H1 : Hp} {s1 : Shared} {h' : Heap} {t' n c : Nat} {acc : Array Value} {S lo : Addr} {P : Nat → Value → Value → Prop} {ps : List (V × V)} {Q : VK} (I1 : Inv X pins σ H1 s1)
    (hk : ∀ b o, s1.heap.get? b = some o → h'.get? b = some o) (hS : h'.get? S = some { cls := .type "list", dict := none, data := .seq acc c, slots := #[] }) (hSl : s1.heap.objs.size ≤ S) (hI : Its lo P acc h' n) (hlo : s1.heap.objs.size ≤ lo) (hSlo : S < lo)
    (hn : n = ps.length) (hP : ∀ j x y, P j x y → ∃ p, ps[j]? = some p ∧ RelV p.1 x ∧ RelV p.2 y) (q : tPairs ps H1 Q) :
    ∃ x H2, Inv X pins σ H2 { s1 with heap := h', toks := t' } ∧ RelV x (.ref S) ∧ Q x H2 := by
  obtain ⟨hsz, q⟩ := q
  subst hn
  have hz := hI.1
  have hit : ∀ j (v : Value), acc.toList[j]? = some v → ∃ a x y, v = .ref a ∧ h'.get? a = some (tupO x y) ∧ P j x y ∧ lo ≤ a := fun j v e => hI.2.1 j v (by rw [← Array.getElem?_toList]; exact e)
  have hl : (acc.toList.map adr).length = ps.length := by rw [List.length_map, Array.length_toList, hz]
  have hnd : (acc.toList.map adr).Nodup := by
    refine List.pairwise_iff_getElem.mpr fun j k hj hk' hjk e => ?_
    rw [List.length_map] at hj hk'
    simp only [List.getElem_map] at e
    obtain ⟨a, _, _, e1, _⟩ := hit j _ (List.getElem?_eq_getElem hj)
    obtain ⟨b, _, _, e2, _⟩ := hit k _ (List.getElem?_eq_getElem hk')
    rw [e1, e2] at e
    have e' : a = b := e
    have := hI.2.2 j k (.ref a) (by rw [← Array.getElem?_toList, List.getElem?_eq_getElem hj, e1]) (by rw [← Array.getElem?_toList, List.getElem?_eq_getElem hk', e2, e'])
    exact absurd this (Nat.ne_of_lt hjk)
  have hge : ∀ b ∈ acc.toList.map adr, lo ≤ b := fun b hb => by
    obtain ⟨v, hv, rfl⟩ := List.mem_map.mp hb
    obtain ⟨j, hj⟩ := List.mem_iff_getElem?.mp hv
    obtain ⟨a, _, _, e1, _, _, e4⟩ := hit j v hj
    rw [e1]
    exact e4
  have hfst : ((acc.toList.map adr).zip ps).map Prod.fst = acc.toList.map adr := List.map_fst_zip (Nat.le_of_eq hl)
  have hSn : S ∉ acc.toList.map adr := fun hm => absurd (hge S hm) (Nat.not_le.mpr hSlo)
  have fr : ∀ b, s1.heap.objs.size ≤ b → H1 b = none := fun b hb => I1.hok.fresh hb
  refine ⟨.ref S, _, I1.ext hk (fun b o e => ?_) (fun b o e => ?_), rfl, q (acc.toList.map adr) S hl hnd (fun b hb => fr b (Nat.le_trans hlo (hge b hb))) hSn (fr S hSl)⟩
  · rw [upd_ne (ne_of_none e (fr S hSl)), layP_ne (fun hm => by
      rw [hfst] at hm
      rw [fr b (Nat.le_trans hlo (hge b hm))] at e
      cases e)]
    exact e
  · by_cases hb : b = S
    · subst hb
      rw [upd_same] at e
      cases e
      refine .inr ⟨hSl, ?_, acc.toList, c, ?_, by rw [Array.toArray_toList]; exact hS⟩
      · rw [List.length_map, hl]; exact hsz
      · refine vals_of_at (by rw [List.length_map, List.length_map]) fun j x u e1 e2 => ?_
        rw [List.getElem?_map, List.getElem?_map, e2] at e1
        cases e1
        obtain ⟨a, _, _, e3, _⟩ := hit j u e2
        rw [e3]
        rfl
    · rw [upd_ne hb] at e
      rcases layP_some (by rw [hfst]; exact hnd) e with r | ⟨p, hp, r1, r2⟩
      · exact .inl r
      · obtain ⟨j, hj⟩ := List.mem_iff_getElem?.mp hp
        rw [List.getElem?_zip_eq_some] at hj
        obtain ⟨j1, j2⟩ := hj
        rw [List.getElem?_map] at j1
        obtain ⟨v, hv, ev⟩ := Option.map_eq_some_iff.mp j1
        obtain ⟨a, x, y, e3, e4, e5, e6⟩ := hit j v hv
        obtain ⟨p', p1, p2, p3⟩ := hP j x y e5
        rw [j2] at p1
        cases p1
        have ea : a = b := by rw [← r1, ← ev, e3]; rfl
        subst ea r2
        refine .inr ⟨Nat.le_trans hlo e6, by show 2 ≤ sizeLine; decide, [x, y], .cons p2 (.cons p3 .nil), ⟨_, e4, rfl, _, rfl⟩⟩
end DL

/-! DL9: list(enumerate(x)), list(zip(x, y)), for and comprehensions over enumerate, zip. -/
namespace DL
open PySem PySem.Spec PyProof.Rows L2
theorem nlt {a b : Nat} (h : b < a) : @Ne Addr a b := Nat.ne_of_gt h
def enV (xs : List V) : List (V × V) := xs.mapIdx fun i x => (V.int (i : Nat), x)
def tListEnum (K : PySem.W.Frag) (te : TE) : TE := fun σ H Q => te σ H fun x H1 => ∃ a xs, x = .ref a ∧ SqL K H1 a xs ∧ tPairs (enV xs) H1 Q
def tListZip (K : PySem.W.Frag) (ta : TA) : TE := fun σ H Q => ta σ H fun vs H1 => ∃ a b xs ys, vs = [.ref a, .ref b] ∧ SqL K H1 a xs ∧ SqL K H1 b ys ∧ tPairs (xs.zip ys) H1 Q
theorem valsAt {xs : List V} {us : List Value} (r : Vals xs us) : ∀ {j : Nat} {u : Value}, us[j]? = some u → ∃ x, xs[j]? = some x ∧ RelV x u := by
  induction r with
  | nil => intro j u e; simp at e
  | cons r1 r2 ih =>
    intro j u e
    cases j with
    | zero => simp only [List.getElem?_cons_zero, Option.some.injEq] at e; subst e; exact ⟨_, rfl, r1⟩
    | succ j => exact ih (by simpa using e)
theorem pe_listEnum {X : Cx} {e : Expr} {te : TE} {p p2 pos pos2 : Pos} (hc : X.calm = true) (hg : Gl X "list") (hm : X.mg "list" = none) (hg2 : Gl X "enumerate") (hm2 : X.mg "enumerate" = none) (he : PE X e te)
    (na : starEach [e] X.env = (false, eval e X.env) :: starEach [] X.env := by rfl)
    (nb : starEach [Expr.Call (.Name "enumerate" p2) [e] [] pos2] X.env = (false, eval (Expr.Call (.Name "enumerate" p2) [e] [] pos2) X.env) :: starEach [] X.env := by rfl) :
    PE X (.Call (.Name "list" p) [.Call (.Name "enumerate" p2) [e] [] pos2] [] pos) (tListEnum X.K te) := by
  refine ⟨fun pins s σ H Q I h => ?_⟩
  refine Call_ (ld_blt I hg hm boot_list (PyProof.Rows.callWith_type1 (args_cons (Call_ (ld_blt I hg2 hm2 boot_enumerate (PyProof.Rows.callWith_type1 (args_cons (thn (he.run pins s σ H _ I h) fun u s1 ⟨x, H1, I1, r1, q1⟩ => args_nil ?_) na) na))) nb) nb))
  obtain ⟨a, xs, ex, hq, q⟩ := q1
  subst ex
  cases r1
  obtain ⟨its, rv, p', hz⟩ := I1.list hq
  have hal : a < s1.heap.objs.size := p'.lt
  refine call_enumerate_list p'.isList fun h' hh hit hsz hk => args_nil ?_
  have wm : ∀ c, c ∈ [s1.heap.objs.size + 1, s1.heap.objs.size] → s1.heap.objs.size ≤ c ∧ c < s1.heap.objs.size + 2 := fun c hcm => by
    have e' : c = s1.heap.objs.size + 1 ∨ c = s1.heap.objs.size := by simpa using hcm
    rcases e' with z | z
    · rw [z]; exact ⟨Nat.le_add_right _ _, Nat.lt_succ_self _⟩
    · rw [z]; exact ⟨Nat.le_refl _, Nat.lt_add_of_pos_right (by decide)⟩
  have n1 : s1.heap.objs.size + 1 ≠ s1.heap.objs.size := Nat.succ_ne_self _
  have na1 : a ≠ s1.heap.objs.size + 1 := Nat.ne_of_lt (Nat.lt_succ_of_lt hal)
  have na2 : a ≠ s1.heap.objs.size := Nat.ne_of_lt hal
  have W := lsrc_enum (prog := X.prog) (w := X.w) (e := s1.heap.objs.size + 1) (it := s1.heap.objs.size) (S := h'.objs.size) (l := a) its.toArray n1 na1 na2 (by rw [hsz]; exact nlt (by omega)) (by rw [hsz]; exact nlt (by omega)) (by rw [hsz]; exact nlt (Nat.lt_of_lt_of_le hal (Nat.le_add_right _ _)))
  refine lsrc_call (s := { s1 with heap := h' }) W en_nolen en_nohint (by decide) (by decide) (I1.ok.hd hc) (by rw [List.size_toArray, ← rv.length]; exact hz) ⟨hit, p'.isList.at fun o e => hk a o e, .inl ⟨_, hh⟩⟩
    (fun b hb => ?_) fun h2 tk acc c hk2 hS hI => ?_
  · show b < h'.objs.size
    rw [hsz]
    exact (wm b hb).2
  · have hlen := rv.length
    refine laid_pairs (s1 := s1) (h' := h2) (lo := h'.objs.size + 1) (n := its.toArray.size) I1 (fun b o e => hk2 b o (fun hm => ?_) (hk b o e)) hS (by rw [hsz]; omega) hI (by rw [hsz]; omega) (Nat.lt_succ_self _) (by unfold enV; rw [List.length_mapIdx, List.size_toArray]; exact hlen.symm) (fun j x y hP => ?_) q
    · exact absurd (Heap.lt_size e) (Nat.not_lt.mpr (wm b hm).1)
    · obtain ⟨⟨t, rfl⟩, hy⟩ := hP
      obtain ⟨v, hv, rv'⟩ := valsAt rv (j := j) (u := y) (by simpa using hy)
      exact ⟨(V.int (j : Nat), v), by unfold enV; rw [List.getElem?_mapIdx, hv]; rfl, ⟨t, rfl⟩, rv'⟩
theorem pe_listZip {X : Cx} {e e2 : Expr} {ta : TA} {p p2 pos pos2 : Pos} (hc : X.calm = true) (hg : Gl X "list") (hm : X.mg "list" = none) (hg2 : Gl X "zip") (hm2 : X.mg "zip" = none) (ha : PA X [e, e2] ta)
    (hs : starEach [e, e2] X.env = (false, eval e X.env) :: starEach [e2] X.env := by rfl) (hpl : (backTo pos2 (starEach [e2] X.env)).any (·.1) = false := by rfl)
    (nb : starEach [Expr.Call (.Name "zip" p2) [e, e2] [] pos2] X.env = (false, eval (Expr.Call (.Name "zip" p2) [e, e2] [] pos2) X.env) :: starEach [] X.env := by rfl) :
    PE X (.Call (.Name "list" p) [.Call (.Name "zip" p2) [e, e2] [] pos2] [] pos) (tListZip X.K ta) := by
  refine ⟨fun pins s σ H Q I h => ?_⟩
  refine Call_ (ld_blt I hg hm boot_list (PyProof.Rows.callWith_type1 (args_cons (Call_ (ld_blt I hg2 hm2 PyProof.Rows.boot_zip (PyProof.Rows.callWith_type1 (thn (ha.run pos2 pins s σ H _ I h) fun us s1 ⟨vs, H1, I1, r1, q1⟩ => ?_) hs hpl))) nb) nb))
  obtain ⟨a, b, xs, ys, ex, hqx, hqy, q⟩ := q1
  subst ex
  cases r1 with
  | cons r rr =>
    cases rr with
    | cons r' rr =>
      cases rr
      cases r
      cases r'
      obtain ⟨its, rv, p1, hz1⟩ := I1.list hqx
      obtain ⟨its2, rv2, p2, hz2⟩ := I1.list hqy
      have hal : a < s1.heap.objs.size := p1.lt
      have hbl : b < s1.heap.objs.size := p2.lt
      refine call_zip_2 p1.isList p2.isList fun h' hz hTI hTO h1 h2 hsz hk => args_nil ?_
      have W := lsrc_zip (prog := X.prog) (w := X.w) (S := h'.objs.size) (PySem.W.ktu_apart s1.heap.objs.size a b p1.lt p2.lt) its.toArray its2.toArray (by rw [hsz]; exact nlt (by omega)) (by rw [hsz]; exact nlt (by omega)) (by rw [hsz]; exact nlt (by omega)) (by rw [hsz]; exact nlt (by omega)) (by rw [hsz]; exact nlt (by omega))
        (by rw [hsz]; exact nlt (Nat.lt_of_lt_of_le hal (Nat.le_add_right _ _))) (by rw [hsz]; exact nlt (Nat.lt_of_lt_of_le hbl (Nat.le_add_right _ _)))
      have hl1 := rv.length
      have hl2 := rv2.length
      have wm : ∀ c, c ∈ [s1.heap.objs.size + 4, s1.heap.objs.size + 3, s1.heap.objs.size, s1.heap.objs.size + 1] → s1.heap.objs.size ≤ c ∧ c < s1.heap.objs.size + 5 := fun c hcm => by
        have e' : c = s1.heap.objs.size + 4 ∨ c = s1.heap.objs.size + 3 ∨ c = s1.heap.objs.size ∨ c = s1.heap.objs.size + 1 := by simpa using hcm
        rcases e' with z | z | z | z
        · rw [z]; exact ⟨Nat.le_add_right _ _, Nat.lt_succ_self _⟩
        · rw [z]; exact ⟨Nat.le_add_right _ _, Nat.add_lt_add_left (by decide) _⟩
        · rw [z]; exact ⟨Nat.le_refl _, Nat.lt_add_of_pos_right (by decide)⟩
        · rw [z]; exact ⟨Nat.le_add_right _ _, Nat.add_lt_add_left (by decide) _⟩
      refine lsrc_call (s := { s1 with heap := h' }) W zi_nolen zi_nohint (by decide) (by decide) (I1.ok.hd hc) (Nat.le_trans (Nat.min_le_left _ _) (by rw [List.size_toArray, ← hl1]; exact hz1)) ⟨hTI, h1, h2, p1.isList.at fun o e => hk a o e, p2.isList.at fun o e => hk b o e, .inl ⟨hz, _, _, hTO⟩⟩
        (fun c hcm => ?_) fun h2 tk acc c hk2 hS hI => ?_
      · show c < h'.objs.size
        rw [hsz]
        exact (wm c hcm).2
      · refine laid_pairs (s1 := s1) (h' := h2) (lo := h'.objs.size + 1) (n := min its.toArray.size its2.toArray.size) I1 (fun c o e => hk2 c o (fun hm => ?_) (hk c o e)) hS (by rw [hsz]; omega) hI (by rw [hsz]; omega) (Nat.lt_succ_self _) (by rw [List.length_zip, List.size_toArray, List.size_toArray, hl1, hl2]) (fun j x y hP => ?_) q
        · exact absurd (Heap.lt_size e) (Nat.not_lt.mpr (wm c hm).1)
        · obtain ⟨hx, hy⟩ := hP
          obtain ⟨v, hv, rv'⟩ := valsAt rv (j := j) (u := x) (by simpa using hx)
          obtain ⟨u, hu, ru'⟩ := valsAt rv2 (j := j) (u := y) (by simpa using hy)
          exact ⟨(v, u), by rw [List.getElem?_zip_eq_some]; exact ⟨hv, hu⟩, rv', ru'⟩
end DL

/-! DL10: enumerate and zip, as data. -/
namespace DL
open PySem PySem.Spec PyProof.Rows L2

/-! ### enumerate(a tuple) -/
set_option maxHeartbeats 1000000 in
theorem meets_enum1 {v : Value} {o : Obj} {H : Heap → Prop} (B : Begins v o H) :
    Meets (Builtin.«enumerate.__new__» ⟨[.type "enumerate", v], []⟩) (fun _ R s => H s.heap ∧
      R (.ok (.ret (.ref (s.heap.push o).objs.size))) { s with heap := (s.heap.push o).push { cls := .type "enumerate", data := .fields #[.none, .bool false, .ref s.heap.objs.size, rawInt 0, .none, .none] } }) :=
  .of_wp fun prog w A R s h => by
    obtain ⟨hp, g, d, tk, os⟩ := s; obtain ⟨h1, h⟩ := h
    have hsub := sub_enumerate
    have q1 : ∀ {A' : Around} {E : Value → Shared → Prop} {Q : Value → Shared → Prop}, Q (.ref hp.objs.size) ⟨hp.push o, g, d, tk, os⟩ → wpAny (model prog w) A' (pyIter v) Q E ⟨hp, g, d, tk, os⟩ :=
      fun q => B.iter prog w _ _ ⟨hp, g, d, tk, os⟩ _ h1 q
    wp_walk using q1
    refine wpAny_stack_any fun st => wpAny_pure ?_
    split
    · rename_i c _ _ _ _ _
      cases (c == Value.type "enumerate")
      · wp_walk using q1
        exact ⟨_, rfl, h⟩
      · wp_walk using q1
        exact ⟨_, rfl, h⟩
    · wp_walk using q1
      exact ⟨_, rfl, h⟩
section
variable {prog : Program} {w : World} {A : Around} {E : Value → Shared → Prop} {s : Shared}
theorem enum_begins1 {v : Value} {o : Obj} {H : Heap → Prop} {Q : Value → Shared → Prop} (B : Begins v o H) (h1 : H s.heap)
    (h : ∀ h', IsEnum h' (s.heap.objs.size + 1) s.heap.objs.size 0 .none → h'.get? s.heap.objs.size = some o → h'.objs.size = s.heap.objs.size + 2 →
      (∀ b o, s.heap.get? b = some o → h'.get? b = some o) → Q (.ref (s.heap.objs.size + 1)) { s with heap := h' }) :
    wpAny (model prog w) A (call (.type "enumerate") [v]) Q E s := by
  refine callType_new F.called_enumerate (by decide) (F.typeCall_enumerate_1 _) (F.newCall_enumerate_1 _) (fun obj => F.args_object_init_2 obj _) F.entry_enumerate_new
    (meets_enum1 B) ⟨h1, ?_⟩
  have hz : (s.heap.push o).objs.size = s.heap.objs.size + 1 := Heap.size_push ..
  show _ ∧ _
  rw [hz]
  have he : IsEnum ((s.heap.push o).push { cls := .type "enumerate", data := .fields #[.none, .bool false, .ref s.heap.objs.size, rawInt 0, .none, .none] }) (s.heap.objs.size + 1) s.heap.objs.size 0 .none := by
    have := Heap.get?_push_size (s.heap.push o) (o := { cls := .type "enumerate", data := .fields #[.none, .bool false, .ref s.heap.objs.size, rawInt 0, .none, .none] }) rfl
    rw [hz] at this; exact this
  refine ⟨⟨_, he, rfl⟩, h _ he (Heap.get?_push_of_some _ (Heap.get?_push_size _ B.free)) (by rw [Heap.size_push, hz]) fun b o x => Heap.get?_push_of_some _ (Heap.get?_push_of_some _ x)⟩
end
/-- the tuple at a as it stands at each turn, each item in a new pair -/
def IteT (K : PySem.W.Frag) (a : Addr) : It :=
  ⟨fun i H => ∃ (xs : List V) (x : V), SqT K H a xs ∧ xs[i]? = some x, fun i H v H' => ∃ T x, v = .ref T ∧ H T = none ∧ H' = upd H T (.tup [.int (i : Nat), x]) ∧ ∀ xs, SqT K H a xs → xs[i]? = some x, fun i H => ∃ xs : List V, SqT K H a xs ∧ xs.length ≤ i⟩
theorem turn_enumT {P : Program} {w : World} {K : PySem.W.Frag} {elts : List Expr} {kk : Nat} {tpos : Pos} (a e it : Addr) :
    Turn P w K (.Tuple elts kk tpos) (IteT K a) [e, it] e (fun i h => (∃ old, IsEnum h e it ((i : Nat) : Int) old) ∧ h.IsTupleIter it a i ∧ e ≠ it ∧ a ≠ e ∧ a ≠ it) where
  mem := by simp
  obj := fun i h st b hb => by
    obtain ⟨⟨old, he⟩, ⟨o, ho, hc, hd⟩, _⟩ := st
    have e' : b = e ∨ b = it := by simpa using hb
    rcases e' with z | z
    · rw [z]; exact ⟨_, he, fun v q => nomatch q⟩
    · rw [z]; exact ⟨o, ho, fun v q => by rw [hd] at q; cases q⟩
  keep := fun i h h' st k => let ⟨⟨old, he⟩, hi, hne⟩ := st; ⟨⟨old, k e (by simp) _ he⟩, hi.at fun o q => k it (by simp) o q, hne⟩
  item := by
    intro X hP hw hK hc i pins s σ H E I hf st hg
    subst hP hw hK
    obtain ⟨⟨old, he⟩, hit, hne, hae, hai⟩ := st
    obtain ⟨xs, x, hq, hx⟩ := hg
    obtain ⟨its, rv, p, hz⟩ := I.tuple hq
    obtain ⟨u, hu, ru⟩ := rv.get hx
    have hel : e < s.heap.objs.size := Heap.lt_size he
    have hil : it < s.heap.objs.size := by obtain ⟨_, q, _⟩ := hit; exact Heap.lt_size q
    have hlt : i < its.toArray.size := by rw [List.size_toArray]; exact (List.getElem?_eq_some_iff.mp hu).1
    refine wpAny_pyNext_enum_itemD (Draws.tuple (A := X.A.in1) (I.ok.hd hc) it a hai its.toArray) he ⟨hit, p⟩ hlt hne (by simp; exact ⟨hne, fun z => hae z.symm⟩) fun y h' tk hPy ho hst' hT hsz hk => ?_
    have hyu : y = u := by
      have : its.toArray[i]? = some u := by simpa using hu
      rw [this] at hPy
      exact (Option.some.inj hPy).symm
    subst hyu
    obtain ⟨hit', _⟩ := hst'
    refine ⟨_, rfl, wpAny_letOwnedTupleGo_enum (s := { s with heap := h', toks := tk + 1 }) ho fun h'' he' sb => ?_⟩
    have hT2 : h''.get? s.heap.objs.size = some { cls := .type "tuple", data := .seq #[.int i tk, y] } := (sb.2 _ (Nat.ne_of_gt hel)).trans hT
    have new : ObjOk X.prog X.w (upd H s.heap.objs.size (.tup [.int (i : Nat), x])) h'' s.heap.objs.size (.tup [.int (i : Nat), x]) :=
      ⟨by show 2 ≤ sizeLine; decide, [.int i tk, y], .cons ⟨_, rfl⟩ (.cons ru .nil), ⟨_, hT2, rfl, _, rfl⟩⟩
    have I1 : Inv X pins σ (upd H s.heap.objs.size (.tup [.int (i : Nat), x])) { s with heap := h'', toks := tk + 1 } :=
      I.turnedNew (ch := [e, it]) (fun b ob hb q => (sb.2 b (fun z => hb (by simp [z]))).trans (hk b ob (fun z => hb (by simp [z])) (fun z => hb (by simp [z])) q)) hf (Nat.le_refl _) new
    refine ⟨.ref s.heap.objs.size, _, I1, rfl, ⟨_, x, rfl, I.hok.fresh (Nat.le_refl _), rfl, fun ys hy => by rw [I.tuple_inj hy hq]; exact hx⟩, ⟨⟨y, ?_⟩, hit'.at fun o q => (sb.2 it (Ne.symm hne)).trans q, hne, hae, hai⟩, fun b hb => ?_⟩
    · have e1 : ((i + 1 : Nat) : Int) = (i : Int) + 1 := by omega
      rw [e1]; exact he'
    · have hb' : b < s.heap.objs.size := by
        have e' : b = e ∨ b = it := by simpa using hb
        rcases e' with z | z
        · rw [z]; exact hel
        · rw [z]; exact hil
      rw [upd_ne (Nat.ne_of_lt hb')]
      exact (hf b hb).1
  done := by
    intro X hP hw hK hc i pins s σ H E I hf st hg
    subst hP hw hK
    obtain ⟨⟨old, he⟩, hit, hne, hae, hai⟩ := st
    obtain ⟨xs, hq, hx⟩ := hg
    obtain ⟨its, rv, p, hz⟩ := I.tuple hq
    obtain ⟨f0, f1, f2, f3, f4, f5⟩ := hf it (by simp)
    have hl := rv.length
    have hT : s.TypeIs (.ref e) "enumerate" := ⟨_, he, rfl⟩
    unfold pyNext
    refine wpAny_bind (wpAny_attempt (wpAny_callSpecial?_slot (name := Str.ofString "__next__") hT F.slot_enumerate_next
      (wpAny_call_entry F.slot_enumerate_next hT F.entry_enumerate_next ?_ (F.args_enumerate_next_1 _))))
    show wpAny _ _ (field (.ref e) 2 >>= _) _ _ _
    refine wpAny_bind (wpAny_field he rfl (x := .ref it) rfl ?_)
    refine wpAny_bind (RZ.nextOf_tuple_end (items := its.toArray) (I.ok.hd hc) hit p (by simp; omega) fun h' x he' hx' => ?_)
    obtain ⟨o, ho, hcl⟩ := hx'
    refine wpAny_bind (wpAny_isInstance (T := "StopIteration") (b := true) ⟨o, ho, hcl⟩ isSubtype_stop ?_)
    exact wpAny_pure ⟨rfl, I.turned (t' := s.toks) (fun b o hb q => he' b o hb q) f0 f1 f3 f4 f5⟩
  self := fun A i s Q E st h => let ⟨⟨_, he⟩, _⟩ := st; wpAny_pyIter_enum he h
def iEnumA (K : PySem.W.Frag) (ta : TA) : TI := fun σ H R => ta σ H fun vs H1 => ∃ a xs, vs = [.ref a] ∧ ((SqL K H1 a xs ∧ R (Ite K a) H1) ∨ (SqT K H1 a xs ∧ R (IteT K a) H1))
theorem pi_enumA {X : Cx} {e : Expr} {ta : TA} {p pos tpos : Pos} {elts : List Expr} {kk : Nat} (hg : Gl X "enumerate") (hm : X.mg "enumerate" = none) (ha : PA X [e] ta) (hs : starEach [e] X.env = [(false, eval e X.env)] := by rfl) :
    PI X (.Tuple elts kk tpos) (.Call (.Name "enumerate" p) [e] [] pos) (iEnumA X.K ta) := by
  refine ⟨fun pins s σ H R I h => ?_⟩
  refine Call_ (ld_blt I hg hm boot_enumerate (PyProof.Rows.callWith_type1 (thn (ha.run pos pins s σ H _ I h) fun us s1 ⟨vs, H1, I1, r1, q1⟩ => ?_) hs rfl))
  obtain ⟨a, xs, ex, q1⟩ := q1
  subst ex
  cases r1 with
  | cons r rr =>
    cases rr
    cases r
    have fresh : ∀ b, b ∈ [s1.heap.objs.size + 1, s1.heap.objs.size] → FpOk X pins H1 b := fun b hb => by
      have e' : b = s1.heap.objs.size + 1 ∨ b = s1.heap.objs.size := by simpa using hb
      have hle : s1.heap.objs.size ≤ b := by
        rcases e' with z | z
        · rw [z]; exact Nat.le_add_right _ _
        · rw [z]; exact Nat.le_refl _
      exact I1.fpOk hle (I1.hok.fresh hle)
    rcases q1 with ⟨hq, q⟩ | ⟨hq, q⟩
    · obtain ⟨its, rv, p', hz⟩ := I1.list hq
      refine call_enumerate_list p'.isList fun h' he hit hsz hk => wpAny_pyIter_enum he ?_
      have I2 : Inv X pins σ H1 { s1 with heap := h' } := I1.kept (t' := s1.toks) hk
      exact ⟨s1.heap.objs.size + 1, [s1.heap.objs.size + 1, s1.heap.objs.size], _, _, H1, rfl, I2, turn_enum a (s1.heap.objs.size + 1) s1.heap.objs.size, ⟨⟨.none, he⟩, hit, Nat.succ_ne_self _⟩, fresh, q⟩
    · obtain ⟨its, rv, p', hz⟩ := I1.tuple hq
      have hal : a < s1.heap.objs.size := by obtain ⟨_, q, _⟩ := id p'; exact Heap.lt_size q
      refine enum_begins1 (begins_tuple a its.toArray) p' fun h' he hit hsz hk => wpAny_pyIter_enum he ?_
      have I2 : Inv X pins σ H1 { s1 with heap := h' } := I1.kept (t' := s1.toks) hk
      exact ⟨s1.heap.objs.size + 1, [s1.heap.objs.size + 1, s1.heap.objs.size], _, _, H1, rfl, I2, turn_enumT a (s1.heap.objs.size + 1) s1.heap.objs.size, ⟨⟨.none, he⟩, ⟨_, hit, rfl, rfl⟩, Nat.succ_ne_self _, Nat.ne_of_lt (Nat.lt_succ_of_lt hal), Nat.ne_of_lt hal⟩, fresh, q⟩

/-! ### as data -/
def enD (xs : List D) : List D := xs.mapIdx fun i x => .tup [.int (i : Nat), x]
def zipD (xs ys : List D) : List D := List.zipWith (fun x y => .tup [x, y]) xs ys
theorem enD_len (xs : List D) : (enD xs).length = xs.length := by unfold enD; rw [List.length_mapIdx]
def iEn (f : EE) : EL := fun env S => (f env S).bind fun d S => match seqD d with
  | some ds => .ok (enD ds) S
  | none => .stuck
/-- both lists, or both tuples -/
def two : D → D → Option (List D × List D)
  | .lst xs, .lst ys => some (xs, ys)
  | .tup xs, .tup ys => some (xs, ys)
  | _, _ => none
def iZi (f g : EE) : EL := fun env S => (f env S).bind fun d S => (g env S).bind fun e S => match two d e with
  | some p => .ok (zipD p.1 p.2) S
  | none => .stuck
section
variable {K : PySem.W.Frag} {c : Bas} {a b : Addr} {ds es : List D} {vs ws : List V}
theorem walkD_new {J : It} {out : List D} (n : Nat) (hn : out.length = n) (hz : n ≤ sizeLine) (go : ∀ i c' S', Adv c c' → Sok K c' S' → i < n → J.go i c'.H) (stop : ∀ c' S', Adv c c' → Sok K c' S' → J.stop n c'.H)
    (y : ∀ i c' S' v H', Adv c c' → Sok K c' S' → i < n → J.yld i c'.H v H' → ∃ T x y dx dy, v = .ref T ∧ c'.H T = none ∧ H' = upd c'.H T (.tup [x, y]) ∧ out[i]? = some (.tup [dx, dy]) ∧ Rp K c'.F c'.ι dx x ∧ Rp K c'.F c'.ι dy y) : WalkD K c J out where
  len := by rw [hn]; exact hz
  go := fun i c' S' ad ok hi => go i c' S' ad ok (by rw [← hn]; exact hi)
  stop := fun c' S' ad ok => by rw [hn]; exact stop c' S' ad ok
  yld := fun i c' S' v H' ad ok hi h => by
    obtain ⟨T, x, y, dx, dy, e1, e2, e3, e4, r1, r2⟩ := y i c' S' v H' ad ok (by rw [← hn]; exact hi) h
    subst e1 e3
    obtain ⟨s2, o2, r⟩ := new_tup (ds := [dx, dy]) (vs := [x, y]) ok e2 (by show 2 ≤ sizeLine; decide) ⟨x, [y], rfl, r1, y, [], rfl, r2, rfl⟩
    exact ⟨_, _, e4, s2, o2, r⟩
theorem enD_get {xs : List D} {i : Nat} {d : D} (h : xs[i]? = some d) : (enD xs)[i]? = some (.tup [.int (i : Nat), d]) := by
  unfold enD
  rw [List.getElem?_mapIdx, h]
  rfl
theorem walkD_en (h : SqL K c.F a vs) (hl : vs.length ≤ sizeLine) (r : RpAll K c.F c.ι ds vs) : WalkD K c (Ite K a) (enD ds) :=
  walkD_new ds.length (enD_len ds) (by rw [← r.len]; exact hl) (fun i c' S' ad ok hi => by
      obtain ⟨v, hv, _⟩ := r.get (List.getElem?_eq_getElem hi)
      exact ⟨vs, v, ok.f.seq (ad.same.seq h), hv⟩) (fun c' S' ad ok => ⟨vs, ok.f.seq (ad.same.seq h), by rw [r.len]; exact Nat.le_refl _⟩) fun i c' S' v H' ad ok hi ⟨T, x, e1, e2, e3, e4⟩ => by
    obtain ⟨d, hd, rd⟩ := r.get' (e4 vs (ok.f.seq (ad.same.seq h)))
    exact ⟨T, _, x, .int (i : Nat), d, e1, e2, e3, enD_get hd, rfl, ad.rp rd⟩
theorem walkD_enT (h : SqT K c.F a vs) (hl : vs.length ≤ sizeLine) (r : RpAll K c.F c.ι ds vs) : WalkD K c (IteT K a) (enD ds) :=
  walkD_new ds.length (enD_len ds) (by rw [← r.len]; exact hl) (fun i c' S' ad ok hi => by
      obtain ⟨v, hv, _⟩ := r.get (List.getElem?_eq_getElem hi)
      exact ⟨vs, v, same_t ok.f (same_t ad.same h), hv⟩) (fun c' S' ad ok => ⟨vs, same_t ok.f (same_t ad.same h), by rw [r.len]; exact Nat.le_refl _⟩) fun i c' S' v H' ad ok hi ⟨T, x, e1, e2, e3, e4⟩ => by
    obtain ⟨d, hd, rd⟩ := r.get' (e4 vs (same_t ok.f (same_t ad.same h)))
    exact ⟨T, _, x, .int (i : Nat), d, e1, e2, e3, enD_get hd, rfl, ad.rp rd⟩
theorem zipD_get {xs ys : List D} {i : Nat} {d e : D} (h : xs[i]? = some d) (h' : ys[i]? = some e) : (zipD xs ys)[i]? = some (.tup [d, e]) := by
  unfold zipD
  rw [List.getElem?_zipWith, h, h']
theorem zipD_len (xs ys : List D) : (zipD xs ys).length = min xs.length ys.length := by unfold zipD; rw [List.length_zipWith]
theorem walkD_zi (h : SqL K c.F a vs) (h' : SqL K c.F b ws) (hl : vs.length ≤ sizeLine) (r : RpAll K c.F c.ι ds vs) (r' : RpAll K c.F c.ι es ws) : WalkD K c (Itz K a b) (zipD ds es) :=
  walkD_new (min ds.length es.length) (zipD_len ds es) (Nat.le_trans (Nat.min_le_left _ _) (by rw [← r.len]; exact hl)) (fun i c' S' ad ok hi => by
      obtain ⟨v, hv, _⟩ := r.get (List.getElem?_eq_getElem (Nat.lt_of_lt_of_le hi (Nat.min_le_left _ _)))
      obtain ⟨w, hw, _⟩ := r'.get (List.getElem?_eq_getElem (Nat.lt_of_lt_of_le hi (Nat.min_le_right _ _)))
      exact ⟨vs, ws, v, w, ok.f.seq (ad.same.seq h), ok.f.seq (ad.same.seq h'), hv, hw⟩) (fun c' S' ad ok => ⟨vs, ws, ok.f.seq (ad.same.seq h), ok.f.seq (ad.same.seq h'), by rw [r.len, r'.len]; omega⟩) fun i c' S' v H' ad ok hi ⟨T, x, y, e1, e2, e3, e4, e5⟩ => by
    obtain ⟨d, hd, rd⟩ := r.get' (e4 vs (ok.f.seq (ad.same.seq h)))
    obtain ⟨d', hd', rd'⟩ := r'.get' (e5 ws (ok.f.seq (ad.same.seq h')))
    exact ⟨T, x, y, d, d', e1, e2, e3, zipD_get hd hd', ad.rp rd, ad.rp rd'⟩
theorem walkD_ziT (h : SqT K c.F a vs) (h' : SqT K c.F b ws) (hl : vs.length ≤ sizeLine) (r : RpAll K c.F c.ι ds vs) (r' : RpAll K c.F c.ι es ws) : WalkD K c (RZ.ItzT K a b) (zipD ds es) :=
  walkD_new (min ds.length es.length) (zipD_len ds es) (Nat.le_trans (Nat.min_le_left _ _) (by rw [← r.len]; exact hl)) (fun i c' S' ad ok hi => by
      obtain ⟨v, hv, _⟩ := r.get (List.getElem?_eq_getElem (Nat.lt_of_lt_of_le hi (Nat.min_le_left _ _)))
      obtain ⟨w, hw, _⟩ := r'.get (List.getElem?_eq_getElem (Nat.lt_of_lt_of_le hi (Nat.min_le_right _ _)))
      exact ⟨vs, ws, v, w, same_t ok.f (same_t ad.same h), same_t ok.f (same_t ad.same h'), hv, hw⟩) (fun c' S' ad ok => ⟨vs, ws, same_t ok.f (same_t ad.same h), same_t ok.f (same_t ad.same h'), by rw [r.len, r'.len]; omega⟩) fun i c' S' v H' ad ok hi ⟨T, x, y, e1, e2, e3, e4, e5⟩ => by
    obtain ⟨d, hd, rd⟩ := r.get' (e4 vs (same_t ok.f (same_t ad.same h)))
    obtain ⟨d', hd', rd'⟩ := r'.get' (e5 ws (same_t ok.f (same_t ad.same h')))
    exact ⟨T, x, y, d, d', e1, e2, e3, zipD_get hd hd', ad.rp rd, ad.rp rd'⟩
end
section
variable {X : Cx} {K : PySem.W.Frag} {B : Bas} {e e2 : Expr} {f g : EE} {p p2 pos pos2 tpos : Pos} {elts : List Expr} {kk : Nat}
theorem i_enum (hK : X.K = K) (hg : Gl X "enumerate") (hm : X.mg "enumerate" = none) (h : PE X e (tD K B f)) (hs : starEach [e] X.env = [(false, eval e X.env)] := by rfl) :
    PI X (.Tuple elts kk tpos) (.Call (.Name "enumerate" p) [e] [] pos) (tI K B (iEn f)) := by
  subst hK
  refine (pi_enumA hg hm (pa_cons h pa_nil (hs := hs)) hs).imp fun σ H R ⟨F, ι, S, env, st, ds, S', e, q⟩ => ?_
  obtain ⟨d, S1, e1, e⟩ := Res.bind_ok e
  refine ⟨F, ι, S, env, st, d, S1, e1, fun v c1 s1 o1 r1 => ?_⟩
  cases d with
  | lst xs =>
    cases e
    obtain ⟨a, vs, ev, h1, hl, h2⟩ := r1
    exact ⟨a, vs, by rw [ev], .inl ⟨o1.f.seq h1, q _ c1 s1 o1 (walkD_en h1 hl h2)⟩⟩
  | tup xs =>
    cases e
    obtain ⟨a, vs, ev, h1, hl, h2⟩ := r1
    exact ⟨a, vs, by rw [ev], .inr ⟨same_t o1.f h1, q _ c1 s1 o1 (walkD_enT h1 hl h2)⟩⟩
  | non => cases e
  | bl b => cases e
  | int b => cases e
  | str b => cases e
  | mu b => cases e
  | ty b => cases e
  | dct ks xs => cases e
theorem i_zip (hK : X.K = K) (hg : Gl X "zip") (hm : X.mg "zip" = none) (h : PE X e (tD K B f)) (h' : PE X e2 (tD K B g)) (hs : starEach [e, e2] X.env = (false, eval e X.env) :: starEach [e2] X.env := by rfl)
    (hs2 : starEach [e2] X.env = (false, eval e2 X.env) :: starEach [] X.env := by rfl) (hpl : (backTo pos (starEach [e2] X.env)).any (·.1) = false := by rfl) :
    PI X (.Tuple elts kk tpos) (.Call (.Name "zip" p) [e, e2] [] pos) (tI K B (iZi f g)) := by
  subst hK
  refine (RZ.pi_zipA hg hm (pa_cons h (pa_cons h' pa_nil (hs := hs2)) (hs := hs)) hs hpl).imp fun σ H R ⟨F, ι, S, env, st, ds, S', e, q⟩ => ?_
  obtain ⟨d, S1, e1, e⟩ := Res.bind_ok e
  obtain ⟨d2, S2, e2, e⟩ := Res.bind_ok e
  refine ⟨F, ι, S, env, st, d, S1, e1, fun v c1 s1 o1 r1 => ?_⟩
  refine ⟨c1.F, c1.ι, S1, env, st.step s1 o1, d2, S2, e2, fun v2 c2 s2 o2 r2 => ?_⟩
  split at e
  · rename_i pp hp
    cases e
    have r1' := s2.rp r1
    unfold two at hp
    split at hp
    · cases hp
      obtain ⟨a, vs, rfl, h1, hl, h2⟩ := r1'
      obtain ⟨b, ws, rfl, h1', hl', h2'⟩ := r2
      exact ⟨a, b, vs, ws, rfl, .inl ⟨o2.f.seq h1, o2.f.seq h1', q _ c2 (s1.trans s2) o2 (walkD_zi h1 h1' hl h2 h2')⟩⟩
    · cases hp
      obtain ⟨a, vs, rfl, h1, hl, h2⟩ := r1'
      obtain ⟨b, ws, rfl, h1', hl', h2'⟩ := r2
      exact ⟨a, b, vs, ws, rfl, .inr ⟨same_t o2.f h1, same_t o2.f h1', q _ c2 (s1.trans s2) o2 (walkD_ziT h1 h1' hl h2 h2')⟩⟩
    · cases hp
  · cases e
/-! list(enumerate(x)), list(zip(x, y)), of lists -/
theorem lay_pairs {c : Bas} {S : Sto} (ok : Sok K c S) : ∀ (L : List (Addr × V × V)) (es : List (D × D)), (L.map Prod.fst).Nodup → (∀ p ∈ L, c.H p.1 = none) → L.length = es.length →
    (∀ (i : Nat) (p : Addr × V × V) (e : D × D), L[i]? = some p → es[i]? = some e → Rp K c.F c.ι e.1 p.2.1 ∧ Rp K c.F c.ι e.2 p.2.2) →
    Step c ⟨layP c.F L, c.ι, layP c.H L⟩ ∧ Sok K ⟨layP c.F L, c.ι, layP c.H L⟩ S ∧ RpAll K (layP c.F L) c.ι (es.map fun e => .tup [e.1, e.2]) (L.map fun p => .ref p.1)
  | [], [], _, _, _, _ => ⟨Step.refl c, ok, rfl⟩
  | p :: L, [], _, _, h, _ => by cases h
  | [], e :: es, _, _, h, _ => by cases h
  | p :: L, e :: es, hn, hf, hl, hr => by
    rw [List.map_cons, List.nodup_cons] at hn
    obtain ⟨s1, o1, r1⟩ := lay_pairs ok L es hn.2 (fun q hq => hf q (List.mem_cons_of_mem _ hq)) (by simpa using hl) fun i q e' h1 h2 => hr (i + 1) q e' (by simpa using h1) (by simpa using h2)
    obtain ⟨ra, rb⟩ := hr 0 p e rfl rfl
    have hp : (Bas.mk (layP c.F L) c.ι (layP c.H L)).H p.1 = none := by
      show layP c.H L p.1 = none
      rw [layP_ne hn.1]
      exact hf p List.mem_cons_self
    obtain ⟨s2, o2, r2⟩ := new_tup (ds := [e.1, e.2]) (vs := [p.2.1, p.2.2]) o1 hp (by show 2 ≤ sizeLine; decide) ⟨_, _, rfl, s1.rp ra, _, _, rfl, s1.rp rb, rfl⟩
    exact ⟨s1.trans s2, o2, _, _, rfl, r2, s2.rpAll r1⟩
theorem new_pairs {c c0 : Bas} {S : Sto} {ps : List (V × V)} {es : List (D × D)} {Q : VK} (ok : Sok K c S) (s0 : Step c0 c) (hl : ps.length ≤ sizeLine) (hn : ps.length = es.length)
    (hr : ∀ (i : Nat) (p : V × V) (e : D × D), ps[i]? = some p → es[i]? = some e → Rp K c.F c.ι e.1 p.1 ∧ Rp K c.F c.ι e.2 p.2)
    (q : ∀ v c', Step c0 c' → Sok K c' S → NewAt K c0 c' (es.map fun e => .tup [e.1, e.2]) v → Q v c'.H) : tPairs ps c.H Q := by
  refine ⟨hl, fun as A hla hnd hf hA hAn => ?_⟩
  have hfst : (as.zip ps).map Prod.fst = as := List.map_fst_zip (Nat.le_of_eq hla)
  obtain ⟨s1, o1, r1⟩ := lay_pairs ok (as.zip ps) es (by rw [hfst]; exact hnd) (fun p hp => hf p.1 (by rw [← hfst]; exact List.mem_map.mpr ⟨p, hp, rfl⟩)) (by rw [List.length_zip, hla, Nat.min_self, hn]) fun i p e h1 h2 => by
    rw [List.getElem?_zip_eq_some] at h1
    exact hr i p.2 e h1.2 h2
  have hp : (Bas.mk (layP c.F (as.zip ps)) c.ι (layP c.H (as.zip ps))).H A = none := by
    show layP c.H (as.zip ps) A = none
    rw [layP_ne (by rw [hfst]; exact hA)]
    exact hAn
  have e1 : ((as.zip ps).map fun p => V.ref p.1) = as.map V.ref := by
    conv => rhs; rw [← hfst]
    rw [List.map_map]
    rfl
  rw [e1] at r1
  obtain ⟨s2, o2, n2⟩ := new_lst o1 hp (by rw [List.length_map, hla]; exact hl) r1
  exact q _ ⟨_, _, _⟩ ((s0.trans s1).trans s2) o2 (n2.from (s0.trans s1))
def eListEn (f : EE) : EL := fun env S => (f env S).bind fun d S => match d with
  | .lst ds => .ok (enD ds) S
  | _ => .stuck
def eListZi (f g : EE) : EL := fun env S => (f env S).bind fun d S => (g env S).bind fun e S => match d, e with
  | .lst xs, .lst ys => .ok (zipD xs ys) S
  | _, _ => .stuck
theorem n_listEn (hc : X.calm = true) (hK : X.K = K) (hg : Gl X "list") (hm : X.mg "list" = none) (hg2 : Gl X "enumerate") (hm2 : X.mg "enumerate" = none) (h : PE X e (tB K B f))
    (na : starEach [e] X.env = (false, eval e X.env) :: starEach [] X.env := by rfl)
    (nb : starEach [Expr.Call (.Name "enumerate" p2) [e] [] pos2] X.env = (false, eval (Expr.Call (.Name "enumerate" p2) [e] [] pos2) X.env) :: starEach [] X.env := by rfl) :
    PE X (.Call (.Name "list" p) [.Call (.Name "enumerate" p2) [e] [] pos2] [] pos) (tN K B (eListEn f)) := by
  subst hK
  refine (pe_listEnum hc hg hm hg2 hm2 h na nb).imp fun σ H Q ⟨F, ι, S, env, st, ds, S', e, q⟩ => ?_
  obtain ⟨d, S1, e1, e⟩ := Res.bind_ok e
  refine ⟨F, ι, S, env, st, d, S1, e1, fun v c1 s1 o1 r1 => ?_⟩
  split at e
  · rename_i xs
    cases e
    obtain ⟨a, vs, ev, h1, hl, h2⟩ := r1.lst o1
    refine ⟨a, vs, ev, h1, ?_⟩
    have ee : enD xs = (xs.mapIdx fun i x => (D.int (i : Nat), x)).map fun e => D.tup [e.1, e.2] := by
      refine List.ext_getElem? fun i => ?_
      unfold enD
      rw [List.getElem?_map, List.getElem?_mapIdx, List.getElem?_mapIdx, Option.map_map]
      rfl
    rw [ee] at q
    refine new_pairs o1 s1 (by unfold enV; rw [List.length_mapIdx]; exact hl) (by unfold enV; rw [List.length_mapIdx, List.length_mapIdx]; exact h2.len) (fun i p e g1 g2 => ?_) q
    unfold enV at g1
    rw [List.getElem?_mapIdx] at g1 g2
    obtain ⟨x, hx, rfl⟩ := Option.map_eq_some_iff.mp g1
    obtain ⟨d, hd, rfl⟩ := Option.map_eq_some_iff.mp g2
    obtain ⟨x', hx', rx⟩ := h2.get hd
    rw [hx] at hx'
    cases hx'
    exact ⟨rfl, rx⟩
  · cases e
theorem n_listZi (hc : X.calm = true) (hK : X.K = K) (hg : Gl X "list") (hm : X.mg "list" = none) (hg2 : Gl X "zip") (hm2 : X.mg "zip" = none) (h : PE X e (tB K B f)) (h' : PE X e2 (tB K B g))
    (hs : starEach [e, e2] X.env = (false, eval e X.env) :: starEach [e2] X.env := by rfl) (hs2 : starEach [e2] X.env = (false, eval e2 X.env) :: starEach [] X.env := by rfl) (hpl : (backTo pos2 (starEach [e2] X.env)).any (·.1) = false := by rfl)
    (nb : starEach [Expr.Call (.Name "zip" p2) [e, e2] [] pos2] X.env = (false, eval (Expr.Call (.Name "zip" p2) [e, e2] [] pos2) X.env) :: starEach [] X.env := by rfl) :
    PE X (.Call (.Name "list" p) [.Call (.Name "zip" p2) [e, e2] [] pos2] [] pos) (tN K B (eListZi f g)) := by
  subst hK
  refine (pe_listZip hc hg hm hg2 hm2 (pa_cons h (pa_cons h' pa_nil (hs := hs2)) (hs := hs)) hs hpl nb).imp fun σ H Q ⟨F, ι, S, env, st, ds, S', e, q⟩ => ?_
  obtain ⟨d, S1, e1, e⟩ := Res.bind_ok e
  obtain ⟨d2, S2, e2, e⟩ := Res.bind_ok e
  refine ⟨F, ι, S, env, st, d, S1, e1, fun v c1 s1 o1 r1 => ?_⟩
  refine ⟨c1.F, c1.ι, S1, env, st.step s1 o1, d2, S2, e2, fun v2 c2 s2 o2 r2 => ?_⟩
  split at e
  · rename_i xs ys _
    cases e
    obtain ⟨a, vs, ev, h1, hl, h2⟩ := (r1.step s2).lst o2
    obtain ⟨b, ws, ew, h1', hl', h2'⟩ := r2.lst o2
    refine ⟨a, b, vs, ws, by rw [ev, ew], h1, h1', ?_⟩
    have ee : zipD xs ys = (xs.zip ys).map fun e => D.tup [e.1, e.2] := by
      unfold zipD
      rw [List.zip, List.map_zipWith]
    rw [ee] at q
    refine new_pairs o2 (s1.trans s2) (by rw [List.length_zip]; exact Nat.le_trans (Nat.min_le_left _ _) hl) (by rw [List.length_zip, List.length_zip, h2.len, h2'.len]) (fun i p e g1 g2 => ?_) q
    rw [List.getElem?_zip_eq_some] at g1 g2
    obtain ⟨x, hx, rx⟩ := h2.get g2.1
    obtain ⟨y, hy, ry⟩ := h2'.get g2.2
    rw [hx] at g1
    rw [hy] at g1
    obtain ⟨k1, k2⟩ := g1
    cases k1
    cases k2
    exact ⟨rx, ry⟩
  · cases e
end
end DL

/-! DL11: two clauses, min with default, isinstance, pop, module's constants. -/
namespace DL
open PySem PySem.Spec PyProof.Rows L2

/-! ### comprehensions of two clauses -/
def compGo2 (g : GE) (p : ET) (it1 : EL) (g1 : GE) (p1 : ET) (f : EE) (vs1 : List Nat) (env0 : Env) : List D → Sto → Res (List D)
  | [], S => .ok [] S
  | d :: ds, S => match g d env0 with
    | none => .stuck
    | some env => (p env S).bind fun k S => if k = true then (it1 env S).bind fun es S => (compGo g1 p1 f (wipeE env vs1) es S).bind fun ys S => (compGo2 g p it1 g1 p1 f vs1 env0 ds S).bind fun zs S => .ok (ys ++ zs) S
      else compGo2 g p it1 g1 p1 f vs1 env0 ds S
def eComp2 (it : EL) (g : GE) (p : ET) (it1 : EL) (g1 : GE) (p1 : ET) (f : EE) (vs vs1 : List Nat) : EL := fun env S => (it env S).bind fun ds S => (compGo2 g p it1 g1 p1 f vs1 (wipeE env vs) ds S).bind fun ys S =>
  if ys.length ≤ 1000000 then .ok ys S else .stuck
theorem nonadr {K : PySem.W.Frag} {c c1 : Bas} {L : Addr} (s : Step c c1) (h : c1.H L = none) : c.H L = none := by
  cases q : c.H L with
  | none => rfl
  | some o => exact absurd h (s.dom L (by rw [q]; exact fun z => by cases z))
/-- a target stores data alone -/
def GOk (g : GE) (ts : List Nat) : Prop := ∀ d env env', g d env = some env' → ∀ (i : Nat) (ds : List D), env'[i]? = some (some (.own ds)) → i ∉ ts ∧ env[i]? = some (some (.own ds))
def GsOk (g : List D → Env → Option Env) (ts : List Nat) : Prop := ∀ d env env', g d env = some env' → ∀ (i : Nat) (ds : List D), env'[i]? = some (some (.own ds)) → i ∉ ts ∧ env[i]? = some (some (.own ds))
theorem go_n (i : Nat) : GOk (gN i) [i] := fun d env env' h j ds e => by
  cases h
  by_cases hj : i = j
  · subst hj
    have hl : i < env.length := by
      have := (List.getElem?_eq_some_iff.mp e).1
      rw [List.length_set] at this
      exact this
    rw [List.getElem?_set_self hl] at e
    cases e
  · rw [List.getElem?_set_ne hj] at e
    exact ⟨fun z => hj (List.mem_singleton.mp z).symm, e⟩
theorem gso_nil : GsOk gsNil [] := fun d env env' h j ds e => by
  cases d with
  | nil => cases h; exact ⟨fun z => (by cases z), e⟩
  | cons _ _ => cases h
theorem gso_cons {g : GE} {gs : List D → Env → Option Env} {ts us : List Nat} (h1 : GOk g ts) (h2 : GsOk gs us) : GsOk (gsCons g gs) (ts ++ us) := fun d env env' h j ds e => by
  cases d with
  | nil => cases h
  | cons d r =>
    obtain ⟨env1, e1, e2⟩ := Option.bind_eq_some_iff.mp (show (g d env).bind (gs r) = some env' from h)
    obtain ⟨n1, k1⟩ := h2 r env1 env' e2 j ds e
    obtain ⟨n2, k2⟩ := h1 d env env1 e1 j ds k1
    exact ⟨fun z => (List.mem_append.mp z).elim n2 n1, k2⟩
theorem go_t {n : Nat} {gs : List D → Env → Option Env} {ts : List Nat} (h : GsOk gs ts) : GOk (gTp n gs) ts := fun d env env' e => by
  cases d with
  | tup ds =>
    have e' : (if ds.length = n then gs ds env else none) = some env' := e
    split at e'
    · exact h ds env env' e'
    · cases e'
  | lst ds =>
    have e' : (if ds.length = n then gs ds env else none) = some env' := e
    split at e'
    · exact h ds env env' e'
    · cases e'
  | non => cases e
  | bl b => cases e
  | int b => cases e
  | str b => cases e
  | mu b => cases e
  | ty b => cases e
  | dct ks xs => cases e
theorem lc2_of {K : PySem.W.Frag} {B : Bas} {it it1 : EL} {g g1 : GE} {ts ts1 vs vs1 : List Nat} {p p1 : ET} {f : EE} (hts : ∀ t ∈ ts, t ∈ vs) (hts1 : ∀ t ∈ ts1, t ∈ vs1) (hgo : GOk g ts) {σ : St} {H : Hp} {Q : VK} (h : tN K B (eComp2 it g p it1 g1 p1 f vs vs1) σ H Q) :
    tLc2 (tI K B it) (tG K B g ts) (tT K B p) (tI K B it1) (tG K B g1 ts1) (tT K B p1) (tD K B f) vs vs1 σ H Q := by
  obtain ⟨F, ι, S, env, st, ys, S', e, k⟩ := h
  obtain ⟨ds, S1, e1, e⟩ := Res.bind_ok e
  obtain ⟨ys', S2', e0, e⟩ := Res.bind_ok e
  split at e
  · rename_i hbig
    cases e
    refine ⟨F, ι, S, env, st, ds, S1, e1, fun J c1 s1 o1 wk => fun L hL => ?_⟩
    have nH : H L = none := nonadr (K := K) (c := ⟨F, ι, H⟩) s1 hL
    obtain ⟨sn, on, L', vs0, eL, _, hL2, _, _, hF0, hι0⟩ := new_lst (ds := []) (vs := []) o1 hL (Nat.zero_le _) rfl
    cases eL
    refine ⟨fun i m H2 => m = ds.length - i ∧ i ≤ ds.length ∧ ∃ F2 ι2 S2 acc av, Step c1 ⟨F2, ι2, H2⟩ ∧ Sok K ⟨F2, ι2, H2⟩ S2 ∧ LAt ⟨F2, ι2, H2⟩ L (.lst av) ∧ RpAll K F2 ι2 acc av ∧
      ∃ zs, compGo2 g p it1 g1 p1 f vs1 (wipeE env vs) (ds.drop i) S2 = .ok zs S' ∧ acc ++ zs = ys, ⟨ds.length, by omega, Nat.zero_le _, c1.F, c1.ι, S1, [], [], sn, on, ⟨upd_same, hF0, hι0⟩, rfl, ys, e0, rfl⟩, fun i m H2 w => ?_⟩
    obtain ⟨rfl, hi, F2, ι2, S2, acc, av, s2, o2, la, ra, zs, e2, e3⟩ := w
    by_cases hlt : i < ds.length
    · refine .inr ⟨wk.go i ⟨F2, ι2, H2⟩ S2 s2.adv o2 hlt, ?_⟩
      have hd : ds.drop i = ds[i] :: ds.drop (i + 1) := List.drop_eq_getElem_cons hlt
      rw [hd] at e2
      refine ⟨fun H' => i + 1 ≤ ds.length ∧ ∃ F2 ι2 S2 acc av, Step c1 ⟨F2, ι2, H'⟩ ∧ Sok K ⟨F2, ι2, H'⟩ S2 ∧ LAt ⟨F2, ι2, H'⟩ L (.lst av) ∧ RpAll K F2 ι2 acc av ∧
        ∃ zs, compGo2 g p it1 g1 p1 f vs1 (wipeE env vs) (ds.drop (i + 1)) S2 = .ok zs S' ∧ acc ++ zs = ys, fun H' n => ⟨ds.length - (i + 1), by omega, rfl, n⟩, fun x H' y => ?_⟩
      obtain ⟨d, F3, hd3, s3, o3, r3⟩ := wk.yld i ⟨F2, ι2, H2⟩ S2 x H' s2.adv o2 hlt y
      have hdi : ds[i] = d := by
        rw [List.getElem?_eq_getElem hlt] at hd3
        exact Option.some.inj hd3
      rw [hdi] at e2
      have e2' : (match g d (wipeE env vs) with
        | none => Res.stuck
        | some env => (p env S2).bind fun k S => if k = true then (it1 env S).bind fun es S => (compGo g1 p1 f (wipeE env vs1) es S).bind fun ys S => (compGo2 g p it1 g1 p1 f vs1 (wipeE _ vs) (ds.drop (i + 1)) S).bind fun zs S => .ok (ys ++ zs) S
          else compGo2 g p it1 g1 p1 f vs1 (wipeE _ vs) (ds.drop (i + 1)) S) = .ok zs S' := e2
      split at e2'
      · cases e2'
      · rename_i env3 hg3
        have st3 : Stt K B ⟨F3, ι2, H'⟩ S2 (wipe σ vs) (wipeE env vs) := ((st.step s1 o1).step (s2.trans s3) o3).wipe vs
        refine ⟨F3, ι2, S2, _, d, env3, st3, r3, hg3, fun σ4 st4 hl4 hf4 => ?_⟩
        have hw : wipe σ4 vs = wipe σ vs := by
          rw [← wipe_idem (σ := σ)]
          exact wipe_eq hl4 fun j hj => hf4 j fun z => hj (hts j z)
        refine ⟨hw, ?_⟩
        obtain ⟨k5, S5, e5, e6⟩ := Res.bind_ok e2'
        refine ⟨F3, ι2, S2, env3, st4, k5, S5, e5, fun c5 s5 o5 => ?_⟩
        have sc5 : Step c1 c5 := (s2.trans s3).trans s5
        have la5 : LAt c5 L (.lst av) := la.step (s3.trans s5)
        cases k5 with
        | true =>
          rw [if_pos rfl] at e6
          obtain ⟨es, S6, e7, e8⟩ := Res.bind_ok e6
          refine iteT ⟨c5.F, c5.ι, S5, env3, st4.step s5 o5, es, S6, e7, fun J1 c6 s6 o6 wk1 => ?_⟩
          have la6 : LAt c6 L (.lst av) := la5.step s6
          have st6 := (st4.step s5 o5).step s6 o6
          have nL1 : c1.H L = none := hL
          refine ⟨fun j m1 H7 => m1 = es.length - j ∧ j ≤ es.length ∧ ∃ F7 ι7 S7 acc7 av7, Step c1 ⟨F7, ι7, H7⟩ ∧ Adv c6 ⟨F7, ι7, H7⟩ ∧ Sok K ⟨F7, ι7, H7⟩ S7 ∧ Stt K B ⟨F7, ι7, H7⟩ S7 σ4 env3 ∧ LAt ⟨F7, ι7, H7⟩ L (.lst av7) ∧ RpAll K F7 ι7 acc7 av7 ∧
            ∃ ys7 S8, compGo g1 p1 f (wipeE env3 vs1) (es.drop j) S7 = .ok ys7 S8 ∧ ∃ zs7, compGo2 g p it1 g1 p1 f vs1 (wipeE env vs) (ds.drop (i + 1)) S8 = .ok zs7 S' ∧ acc7 ++ (ys7 ++ zs7) = ys, ?_, fun j m1 H7 w7 => ?_⟩
          · obtain ⟨ys7, S8, e9, e10⟩ := Res.bind_ok e8
            obtain ⟨zs7, S9, e11, e12⟩ := Res.bind_ok e10
            cases e12
            exact ⟨es.length, rfl, Nat.zero_le _, c6.F, c6.ι, S6, acc, av, sc5.trans s6, Adv.refl _, o6, st6, la6, s6.rpAll (s5.rpAll (s3.rpAll ra)), ys7, S8, e9, zs7, e11, e3⟩
          · obtain ⟨rfl, hj, F7, ι7, S7, acc7, av7, s7, ad7, o7, st7, la7, ra7, ys7, S8, e9, zs7, e11, e12⟩ := w7
            by_cases hlj : j < es.length
            · refine .inr ⟨wk1.go j ⟨F7, ι7, H7⟩ S7 ad7 o7 hlj, ?_⟩
              have hd1 : es.drop j = es[j] :: es.drop (j + 1) := List.drop_eq_getElem_cons hlj
              rw [hd1] at e9
              refine ⟨fun H7 => j + 1 ≤ es.length ∧ ∃ F7 ι7 S7 acc7 av7, Step c1 ⟨F7, ι7, H7⟩ ∧ Adv c6 ⟨F7, ι7, H7⟩ ∧ Sok K ⟨F7, ι7, H7⟩ S7 ∧ Stt K B ⟨F7, ι7, H7⟩ S7 σ4 env3 ∧ LAt ⟨F7, ι7, H7⟩ L (.lst av7) ∧ RpAll K F7 ι7 acc7 av7 ∧
                ∃ ys7 S8, compGo g1 p1 f (wipeE env3 vs1) (es.drop (j + 1)) S7 = .ok ys7 S8 ∧ ∃ zs7, compGo2 g p it1 g1 p1 f vs1 (wipeE env vs) (ds.drop (i + 1)) S8 = .ok zs7 S' ∧ acc7 ++ (ys7 ++ zs7) = ys, fun H' n => ⟨es.length - (j + 1), by omega, rfl, n⟩, fun x H' y => ?_⟩
              obtain ⟨d8, F8, hd8, s8, o8, r8⟩ := wk1.yld j ⟨F7, ι7, H7⟩ S7 x H' ad7 o7 hlj y
              have hdj : es[j] = d8 := by
                rw [List.getElem?_eq_getElem hlj] at hd8
                exact Option.some.inj hd8
              rw [hdj] at e9
              have e9' : (match g1 d8 (wipeE env3 vs1) with
                | none => Res.stuck
                | some env => (p1 env S7).bind fun k S => if k = true then (f env S).bind fun y S => (compGo g1 p1 f (wipeE env3 vs1) (es.drop (j + 1)) S).bind fun ys S => .ok (y :: ys) S else compGo g1 p1 f (wipeE env3 vs1) (es.drop (j + 1)) S) = .ok ys7 S8 := e9
              split at e9'
              · cases e9'
              · rename_i env8 hg8
                have st8 : Stt K B ⟨F8, ι7, H'⟩ S7 (wipe σ4 vs1) (wipeE env3 vs1) := (st7.step s8 o8).wipe vs1
                refine ⟨F8, ι7, S7, _, d8, env8, st8, r8, hg8, fun σ9 st9 hl9 hf9 => ?_⟩
                have hw9 : wipe σ9 vs1 = wipe σ4 vs1 := by
                  rw [← wipe_idem (σ := σ4)]
                  exact wipe_eq hl9 fun j hj => hf9 j fun z => hj (hts1 j z)
                refine ⟨hw9, ?_⟩
                obtain ⟨k10, S10, e13, e14⟩ := Res.bind_ok e9'
                refine ⟨F8, ι7, S7, env8, st9, k10, S10, e13, fun c10 s10 o10 => ?_⟩
                have la10 : LAt c10 L (.lst av7) := la7.step (s8.trans s10)
                cases k10 with
                | true =>
                  rw [if_pos rfl] at e14
                  obtain ⟨y11, S11, e15, e16⟩ := Res.bind_ok e14
                  obtain ⟨ys12, S12, e17, e18⟩ := Res.bind_ok e16
                  cases e18
                  refine iteT ⟨c10.F, c10.ι, S10, env8, st9.step s10 o10, y11, S11, e15, fun v11 c11 s11 o11 r11 => ?_⟩
                  have la11 : LAt c11 L (.lst av7) := la10.step s11
                  have hlen : av7.length < sizeLine := by
                    have h1 : ys.length ≤ 1000000 := hbig
                    rw [← e12, List.length_append, List.length_append, List.length_cons] at h1
                    rw [ra7.len]
                    exact sizeM (by omega)
                  have sAll : Step c1 c11 := ((s7.trans s8).trans s10).trans s11
                  have stB : Stt K B c11 S11 σ4 env3 := ((st7.step s8 o8).step s10 o10).step s11 o11
                  refine ⟨av7, la11.1, hlen, hlj, c11.F, c11.ι, S11, acc7 ++ [y11], av7 ++ [v11], sAll.upd_new nL1, ((ad7.trans s8.adv).trans s10.adv).trans ⟨s11.same, s11.pre⟩, o11.upd la11.2.1 la11.2.2, ?_, ⟨upd_same, la11.2⟩, (s11.rpAll (s10.rpAll (s8.rpAll ra7))).snoc r11, ys12, S8, e17, zs7, e11, by rw [← e12]; simp⟩
                  -- the names' own lists are elsewhere
                  refine ⟨o11.upd la11.2.1 la11.2.2, ⟨stB.env.len, fun q x ex => ?_, stB.env.inj⟩, ?_⟩
                  · obtain ⟨v, hv, hx⟩ := stB.env.at_ q x ex
                    refine ⟨v, hv, ?_⟩
                    cases x with
                    | sh dd => exact hx
                    | own dd =>
                      obtain ⟨b, ws, q1, q2, q3, q4, q5, q6, q7⟩ := hx
                      -- the name had that list before L was laid
                      obtain ⟨nq, ex0⟩ := hgo d _ env3 hg3 q dd ex
                      obtain ⟨v0, hv0, b0, ws0, q10, q20, _⟩ := ((st.step s1 o1).wipe vs).env.at_ q _ ex0
                      rw [← hf4 q nq, hv] at hv0
                      cases hv0
                      rw [q1] at q10
                      cases q10
                      have hbL : b ≠ L := ne_of_none q20 nL1
                      refine ⟨b, ws, q1, ?_, q3, q4, q5, q6, q7⟩
                      show upd c11.H L _ b = some _
                      rw [upd_ne hbL]
                      exact q2
                  · exact stB.st.upd_new (nonadr (K := K) (st.st.trans s1) hL)
                | false =>
                  rw [if_neg Bool.false_ne_true] at e14
                  exact iteF ⟨hlj, c10.F, c10.ι, S10, acc7, av7, (s7.trans s8).trans s10, (ad7.trans s8.adv).trans s10.adv, o10, (st7.step s8 o8).step s10 o10, la10, s10.rpAll (s8.rpAll ra7), ys7, S8, e14, zs7, e11, e12⟩
            · have hj' : j = es.length := by omega
              subst hj'
              rw [List.drop_length] at e9
              cases e9
              exact .inl ⟨wk1.stop ⟨F7, ι7, H7⟩ _ ad7 o7, hlt, F7, ι7, S7, acc7, av7, s7, o7, la7, ra7, zs7, e11, e12⟩
        | false =>
          rw [if_neg Bool.false_ne_true] at e6
          exact iteF ⟨hlt, c5.F, c5.ι, S5, acc, av, sc5, o5, la5, s5.rpAll (s3.rpAll ra), zs, e6, e3⟩
    · have hi' : i = ds.length := by omega
      subst hi'
      rw [List.drop_length] at e2
      cases e2
      rw [List.append_nil] at e3
      subst e3
      exact .inl ⟨wk.stop ⟨F2, ι2, H2⟩ _ s2.adv o2, k _ ⟨F2, ι2, H2⟩ (s1.trans s2) o2 ⟨L, av, rfl, nH, la.1, by rw [ra.len]; exact sizeM' hbig, ra, la.2.1, la.2.2⟩⟩
  · cases e
section
variable {X : Cx} {K : PySem.W.Frag} {B : Bas}
variable {elt tg iter tg1 iter1 : Expr} {ifs ifs1 : List Expr} {scope : Scope} {own : List (Str × Nat)} {pos : Pos} {it it1 : EL} {g g1 : GE} {ts ts1 vs1 : List Nat} {p p1 : ET} {f : EE}
theorem n_lc2 (hc : X.calm = true) (hN : X.N.Nodup) (hi : PI X tg iter (tI K B it)) (ok : BlkOk X.N X.env.scope scope own)
    (hg : ∀ (s : Shared) (H : Hp) (C : Addr) (cl : List (Str × Addr)) (fp : List Addr), PG (X.blk s H scope (compEnvC scope cl C X.env) fp) tg (tG K B g ts)) (ht : ∀ (s : Shared) (H : Hp) (C : Addr) (cl : List (Str × Addr)) (fp : List Addr), PTs (X.blk s H scope (compEnvC scope cl C X.env) fp) ifs (tT K B p))
    (hi1 : ∀ (s : Shared) (H : Hp) (C : Addr) (cl : List (Str × Addr)) (fp : List Addr), PI (X.blk s H scope (compEnvC scope cl C X.env) fp) tg1 iter1 (tI K B it1))
    (hg1 : ∀ (s : Shared) (H : Hp) (C : Addr) (cl : List (Str × Addr)) (fp : List Addr), PG (X.blk s H scope (compEnvC scope cl C X.env) fp) tg1 (tG K B g1 ts1)) (ht1 : ∀ (s : Shared) (H : Hp) (C : Addr) (cl : List (Str × Addr)) (fp : List Addr), PTs (X.blk s H scope (compEnvC scope cl C X.env) fp) ifs1 (tT K B p1))
    (he : ∀ (s : Shared) (H : Hp) (C : Addr) (cl : List (Str × Addr)) (fp : List Addr), PE (X.blk s H scope (compEnvC scope cl C X.env) fp) elt (tD K B f)) (hts : ∀ t ∈ ts, t ∈ own.map (·.2)) (hts1 : ∀ t ∈ ts1, t ∈ ts1 ++ vs1) (hv1 : ∀ t ∈ ts1 ++ vs1, t ∈ own.map (·.2)) (hgo : GOk g ts)
    (hs : ∀ x, foldedSetIterable iter X.env x = pure x := by intro _; rfl) (hs1 : ∀ env x, foldedSetIterable iter1 env x = pure x := by intro _ _; rfl) :
    PE X (.ListComp elt [⟨tg, iter, ifs, 0⟩, ⟨tg1, iter1, ifs1, 0⟩] scope pos) (tN K B (eComp2 it g p it1 g1 p1 f (own.map (·.2)) (ts1 ++ vs1))) :=
  (pe_lc2 hc hN hi ok hv1 hg ht hi1 hg1 ht1 he hs hs1).imp fun σ H Q h => lc2_of hts hts1 hgo h
theorem s_newLc2 {i : Nat} {y : Str} {py : Pos} {spos : Pos} (hc : X.calm = true) (hN : X.N.Nodup) (hy : X.N[i]? = some y) (hyl : X.env.scope.names.lookup y = some .local)
    (hsw : swapsWith (.ListComp elt [⟨tg, iter, ifs, 0⟩, ⟨tg1, iter1, ifs1, 0⟩] scope pos) (some (.Name y py)) spos.line X.env = pure true) (hi : PI X tg iter (tI K B it)) (ok : BlkOk X.N X.env.scope scope own)
    (hg : ∀ (s : Shared) (H : Hp) (C : Addr) (cl : List (Str × Addr)) (fp : List Addr), PG (X.blk s H scope (compEnvC scope cl C X.env) fp) tg (tG K B g ts)) (ht : ∀ (s : Shared) (H : Hp) (C : Addr) (cl : List (Str × Addr)) (fp : List Addr), PTs (X.blk s H scope (compEnvC scope cl C X.env) fp) ifs (tT K B p))
    (hi1 : ∀ (s : Shared) (H : Hp) (C : Addr) (cl : List (Str × Addr)) (fp : List Addr), PI (X.blk s H scope (compEnvC scope cl C X.env) fp) tg1 iter1 (tI K B it1))
    (hg1 : ∀ (s : Shared) (H : Hp) (C : Addr) (cl : List (Str × Addr)) (fp : List Addr), PG (X.blk s H scope (compEnvC scope cl C X.env) fp) tg1 (tG K B g1 ts1)) (ht1 : ∀ (s : Shared) (H : Hp) (C : Addr) (cl : List (Str × Addr)) (fp : List Addr), PTs (X.blk s H scope (compEnvC scope cl C X.env) fp) ifs1 (tT K B p1))
    (he : ∀ (s : Shared) (H : Hp) (C : Addr) (cl : List (Str × Addr)) (fp : List Addr), PE (X.blk s H scope (compEnvC scope cl C X.env) fp) elt (tD K B f)) (hts : ∀ t ∈ ts, t ∈ own.map (·.2)) (hts1 : ∀ t ∈ ts1, t ∈ ts1 ++ vs1) (hv1 : ∀ t ∈ ts1 ++ vs1, t ∈ own.map (·.2)) (hgo : GOk g ts)
    (hs : ∀ x, foldedSetIterable iter X.env x = pure x := by intro _; rfl) (hs1 : ∀ env x, foldedSetIterable iter1 env x = pure x := by intro _ _; rfl) :
    PS X (.Assign [.Name y py] (.ListComp elt [⟨tg, iter, ifs, 0⟩, ⟨tg1, iter1, ifs1, 0⟩] scope pos) spos) (tAsg (tN K B (eComp2 it g p it1 g1 p1 f (own.map (·.2)) (ts1 ++ vs1))) (gName i)) :=
  (ps_setLc2 hc hN hy hyl hsw hi ok hv1 hg ht hi1 hg1 ht1 he hs hs1).imp fun E σ H h => lc2_of (Q := fun x H1 => gName i x σ H1 E.nx) hts hts1 hgo h
end

/-! ### own lists that change -/
theorem Stt.own_upd {K : PySem.W.Frag} {B c : Bas} {S : Sto} {σ : St} {env : Env} {i : Nat} {a : Addr} {ds ds' : List D} {vs vs' : List V} (st : Stt K B c S σ env) (hi : env[i]? = some (some (.own ds))) (hv : σ[i]? = some (some (.ref a)))
    (hl : vs'.length ≤ sizeLine) (r : RpAll K c.F c.ι ds' vs') : Stt K B ⟨c.F, c.ι, upd c.H a (.lst vs')⟩ S σ (env.set i (some (.own ds'))) := by
  obtain ⟨v, hv', a', vs, ev, h1, _, h2, h3, h4, h5⟩ := st.env.at_ i _ hi
  rw [hv] at hv'
  cases hv'
  cases ev
  refine ⟨st.ok.upd h3 h4, ⟨by rw [List.length_set]; exact st.env.len, fun j x ej => ?_, fun j j2 es fs e2 e3 hjk => ?_⟩, st.st.upd_new h5⟩
  · by_cases hj : i = j
    · subst hj
      rw [List.getElem?_set_self ((List.getElem?_eq_some_iff.mp hi).1)] at ej
      cases ej
      exact ⟨.ref a, hv, a, vs', rfl, upd_same, hl, r, h3, h4, h5⟩
    · rw [List.getElem?_set_ne hj] at ej
      obtain ⟨u, g1, g2⟩ := st.env.at_ j x ej
      refine ⟨u, g1, ?_⟩
      cases x with
      | sh d => exact g2
      | own es =>
        obtain ⟨b, ws, e2, k1, k2, k3, k4, k5, k6⟩ := g2
        refine ⟨b, ws, e2, ?_, k2, k3, k4, k5, k6⟩
        have hba : b ≠ a := fun z => st.env.inj i j ds es hi ej hj (by rw [hv, g1, e2, z])
        show upd c.H a _ b = some _
        rw [upd_ne hba]
        exact k1
  · have own_of : ∀ (j : Nat) (es : List D), (env.set i (some (.own ds')))[j]? = some (some (.own es)) → ∃ es', env[j]? = some (some (.own es')) := fun j es ej => by
      by_cases hj : i = j
      · subst hj; exact ⟨ds, hi⟩
      · rw [List.getElem?_set_ne hj] at ej; exact ⟨es, ej⟩
    obtain ⟨es', g1⟩ := own_of j es e2
    obtain ⟨fs', g2⟩ := own_of j2 fs e3
    exact st.env.inj j j2 es' fs' g1 g2 hjk
/-- xs.pop(), xs a list of the name's own, the item dropped -/
def sPop (i : Nat) : SS := fun env S => match env[i]? with
  | some (some (.own ds)) => if ds = [] then .stuck else .ok (.nx (env.set i (some (.own ds.dropLast)))) S
  | _ => .stuck
theorem RpAll.dropLast {K : PySem.W.Frag} {F : Hp} {ι : List Addr} {ds : List D} {vs : List V} (h : RpAll K F ι ds vs) : RpAll K F ι ds.dropLast vs.dropLast := by
  rw [List.dropLast_eq_take, List.dropLast_eq_take, h.len]
  exact h.take _
/-- what can't be -/
def sStuck : SS := fun _ _ => .stuck
section
variable {X : Cx} {K : PySem.W.Frag} {B : Bas} {pos : Pos} {e : Expr} {es : List Expr} {f : EE} {st : Stmt} {sts : List Stmt}
theorem s_pop {i : Nat} (hK : X.K = K) (hp : PS X st (tDrop (tBM0 X.K "list" rPop (tVar i)))) : PS X st (tK K B (sPop i)) := hp.imp fun E σ H ⟨F, ι, S, env, st, o, S', e, q⟩ => by
  subst hK
  unfold sPop at e
  split at e
  · rename_i ds hi
    split at e
    · cases e
    · rename_i hz
      cases e
      obtain ⟨v, hv, a, vs, ev, h1, hl, h2, h3, h4, h5⟩ := st.env.at_ i _ hi
      subst ev
      have hne : 0 < vs.length := by
        rw [h2.len]
        exact List.length_pos_iff.mpr hz
      refine ⟨.ref a, hv, .inl ⟨rfl, _, SqL.of h1⟩, a, vs, vs[vs.length - 1], rfl, rfl, h1, List.getElem?_eq_getElem (by omega), ?_⟩
      exact q σ ⟨F, ι, upd H a (.lst vs.dropLast)⟩ (Stt.own_upd (vs := vs) st hi hv (by rw [List.length_dropLast]; omega) h2.dropLast) ⟨Same.refl _, List.prefix_rfl⟩
  · cases e
theorem s_stuck : PS X st (tK K B sStuck) := ps_never.imp fun E σ H ⟨F, ι, S, env, st, o, S', e, q⟩ => by cases e
theorem ss_stuck : PSs X sts (tK K B sStuck) := pss_never.imp fun E σ H ⟨F, ι, S, env, st, o, S', e, q⟩ => by cases e
/-! a module's constant -/
theorem d_glob {x : Str} {d : D} {v : V} {u : Value} (hg : Gl X x) (hm : X.mg x = some u) (r : RelV v u) (rd : ∀ F ι, Rp K F ι d v) (hd : (x == ("__debug__" : Str)) = false := by decide) : PE X (.Name x pos) (tD K B (eC d)) := PE.const (pe_glob hg hm r hd) rd
end

/-! ### isinstance -/
def tyN : D → Option String
  | .non => some "NoneType"
  | .bl _ => some "bool"
  | .int _ => some "int"
  | .str _ => some "str"
  | .lst _ => some "list"
  | .tup _ => some "tuple"
  | .mu _ => some "list"
  | .dct _ _ => some "dict"
  | .ty _ => none
/-- is a thing of type a one of b (the few that are asked) -/
def isTy (b : String) : D → Option Bool
  | .non => some (b == "NoneType")
  | .bl _ => some (b == "bool" || b == "int")
  | .int _ => some (b == "int")
  | .str _ => some (b == "str")
  | .lst _ => some (b == "list")
  | .tup _ => some (b == "tuple")
  | .mu _ => some (b == "list")
  | .dct _ _ => some (b == "dict")
  | .ty _ => none
def knownTy : List String := ["int", "bool", "str", "list", "tuple"]
theorem isTy_kit {b t : String} {d : D} {r : Bool} (hb : b ∈ knownTy) (ht : tyN d = some t) (h : isTy b d = some r) : kitB t b = some r := by
  have hb' : b = "int" ∨ b = "bool" ∨ b = "str" ∨ b = "list" ∨ b = "tuple" := by simpa [knownTy] using hb
  cases d <;> first
    | (cases ht; done)
    | (cases ht; cases h; rcases hb' with rfl | rfl | rfl | rfl | rfl <;> decide +kernel)
theorem tyx_of {K : PySem.W.Frag} {B : Hp} {c : Bas} {S : Sto} {d : D} {v : V} {t : String} (ok : Sok K c S) (r : Rb K B c d v) (ht : tyN d = some t) : (∃ n, d = .mu n ∧ S[n]? = none) ∨ TyX K c.H v (.type t) := by
  have lstT : ∀ {a : Addr} {vs : List V}, SqL K c.H a vs → TyX K c.H (.ref a) (.type "list") := fun {a vs} h => by
    rcases h with (h | ⟨o, h⟩) | ⟨o, its, n, h1, h2, _⟩
    · exact .base (.lst h)
    · exact .base (.frz h)
    · exact .kList h1 h2
  cases d with
  | non => cases ht; cases r.non; exact .inr (.base .non)
  | bl b => cases ht; cases r.bl; exact .inr (.base (.bl b))
  | int b => cases ht; cases r.int; exact .inr (.base (.int b))
  | str b => cases ht; cases r.str; exact .inr (.base (.str b))
  | lst xs =>
    cases ht
    obtain ⟨a, vs, rfl, h1, _⟩ := r.lst ok
    exact .inr (lstT h1)
  | tup xs =>
    cases ht
    obtain ⟨a, vs, rfl, h1, _⟩ := r.tup ok
    rcases h1 with (h | ⟨o, h⟩) | ⟨o, its, n, h1, h2, _⟩
    · exact .inr (.base (.tup h))
    · exact .inr (.fTuple h)
    · exact .inr (.kTuple h1 h2)
  | mu n =>
    cases ht
    cases hs : S[n]? with
    | none => exact .inl ⟨n, rfl, hs⟩
    | some ds =>
      obtain ⟨a, vs, rfl, _, h1, _⟩ := r.mu ok hs
      exact .inr (.base (.lst h1))
  | ty n => cases ht
  | dct ks xs =>
    cases ht
    rcases r with ⟨a, vs, e, h, _⟩ | ⟨ds, e, _⟩
    · subst e
      rcases h with ⟨kvs, h, _⟩ | ⟨kvs, h, _⟩
      · exact .inr (.base (.dK (ok.f _ _ h)))
      · exact .inr (.base (.dT (ok.f _ _ h)))
    · cases e
theorem Rb.muS {K : PySem.W.Frag} {B : Hp} {c : Bas} {S : Sto} {n : Nat} {v : V} (ok : Sok K c S) (r : Rb K B c (.mu n) v) : S[n]? ≠ none := by
  rcases r with ⟨a, h1, h2⟩ | ⟨es, e, _⟩
  · have := (List.getElem?_eq_some_iff.mp h2).1
    rw [ok.len] at this
    rw [List.getElem?_eq_getElem this]
    exact fun z => by cases z
  · cases e
def eIsi (b : String) (f : EE) : EE := fun env S => (f env S).bind fun d S => match isTy b d with
  | some r => .ok (.bl r) S
  | none => .stuck
def eIsi2 (b b2 : String) (f : EE) : EE := fun env S => (f env S).bind fun d S => match isTy b d, isTy b2 d with
  | some r, some r2 => .ok (.bl (r || r2)) S
  | _, _ => .stuck
theorem isTy_tyN {b : String} {d : D} {r : Bool} (h : isTy b d = some r) : ∃ t, tyN d = some t := by
  cases d with
  | ty n => cases h
  | non => exact ⟨_, rfl⟩
  | bl b => exact ⟨_, rfl⟩
  | int b => exact ⟨_, rfl⟩
  | str b => exact ⟨_, rfl⟩
  | lst b => exact ⟨_, rfl⟩
  | tup b => exact ⟨_, rfl⟩
  | mu b => exact ⟨_, rfl⟩
  | dct b c => exact ⟨_, rfl⟩
section
variable {X : Cx} {K : PySem.W.Frag} {B : Bas} {pos p p2 p3 p4 : Pos} {e : Expr} {f : EE} {b b2 : String} {x y z : Str} {kk : Nat}
theorem tyx_of' {K : PySem.W.Frag} {B : Hp} {c : Bas} {S : Sto} {d : D} {v : V} {t : String} (ok : Sok K c S) (r : Rb K B c d v) (ht : tyN d = some t) : TyX K c.H v (.type t) := by
  rcases tyx_of ok r ht with ⟨n, rfl, h⟩ | h
  · exact absurd h (Rb.muS ok r)
  · exact h
theorem d_isi (hK : X.K = K) (hg : Gl X x) (hm : X.mg x = none) (hv : bootBuiltins x = some (.builtin "isinstance")) (hg2 : Gl X y) (hm2 : X.mg y = none) (hv2 : bootBuiltins y = some (.type b)) (hb : b ∈ knownTy) (he : PE X e (tB K B f))
    (hn : x ≠ "__name__" := by decide) (hdb : (x == ("__debug__" : Str)) = false := by decide) (hn2 : y ≠ "__name__" := by decide) (hdb2 : (y == ("__debug__" : Str)) = false := by decide)
    (hs : starEach [e, .Name y p2] X.env = (false, eval e X.env) :: starEach [.Name y p2] X.env := by rfl) (hs2 : starEach [.Name y p2] X.env = (false, eval (.Name y p2) X.env) :: starEach [] X.env := by rfl) (hpl : (backTo pos (starEach [.Name y p2] X.env)).any (·.1) = false := by rfl) :
    PE X (.Call (.Name x p) [e, .Name y p2] [] pos) (tD K B (eIsi b f)) := by
  subst hK
  refine (pe_callB call_isi hg hm hv (pa_cons he (pa_cons (pe_bltn hg2 hm2 hv2 (v := .ty b) rfl hn2 hdb2) pa_nil (hs := hs2)) (hs := hs)) hn hdb hs hpl).imp fun σ H Q ⟨F, ι, S, env, st, o, S', e, q⟩ => ?_
  obtain ⟨d, S1, e1, e⟩ := Res.bind_ok e
  refine ⟨F, ι, S, env, st, d, S1, e1, fun v c1 s1 o1 r1 => ?_⟩
  split at e
  · rename_i r hr
    cases e
    obtain ⟨t, ht⟩ := isTy_tyN hr
    exact ⟨v, .ty b, .type t, .type b, r, rfl, .ty b, tyx_of' o1 r1 ht, kit_ty (isTy_kit hb ht hr), q _ c1 s1 o1 rfl⟩
  · cases e
theorem d_isi2 (hK : X.K = K) (hg : Gl X x) (hm : X.mg x = none) (hv : bootBuiltins x = some (.builtin "isinstance")) (hg2 : Gl X y) (hm2 : X.mg y = none) (hv2 : bootBuiltins y = some (.type b)) (hg3 : Gl X z) (hm3 : X.mg z = none) (hv3 : bootBuiltins z = some (.type b2)) (hb : b ∈ knownTy) (hb2 : b2 ∈ knownTy) (he : PE X e (tB K B f))
    (hn : x ≠ "__name__" := by decide) (hdb : (x == ("__debug__" : Str)) = false := by decide) (hn2 : y ≠ "__name__" := by decide) (hdb2 : (y == ("__debug__" : Str)) = false := by decide) (hn3 : z ≠ "__name__" := by decide) (hdb3 : (z == ("__debug__" : Str)) = false := by decide)
    (hs : starEach [e, .Tuple [.Name y p2, .Name z p3] kk p4] X.env = (false, eval e X.env) :: starEach [.Tuple [.Name y p2, .Name z p3] kk p4] X.env := by rfl) (hs2 : starEach [Expr.Tuple [.Name y p2, .Name z p3] kk p4] X.env = (false, eval (.Tuple [.Name y p2, .Name z p3] kk p4) X.env) :: starEach [] X.env := by rfl)
    (hs3 : starEach [Expr.Name y p2, .Name z p3] X.env = (false, eval (.Name y p2) X.env) :: starEach [.Name z p3] X.env := by rfl) (hs4 : starEach [Expr.Name z p3] X.env = (false, eval (.Name z p3) X.env) :: starEach [] X.env := by rfl) (hpl : (backTo pos (starEach [Expr.Tuple [.Name y p2, .Name z p3] kk p4] X.env)).any (·.1) = false := by rfl) :
    PE X (.Call (.Name x p) [e, .Tuple [.Name y p2, .Name z p3] kk p4] [] pos) (tD K B (eIsi2 b b2 f)) := by
  subst hK
  refine (pe_callB call_isiT hg hm hv (pa_cons he (pa_cons (pe_tup (pa_cons (pe_bltn hg2 hm2 hv2 (v := .ty b) rfl hn2 hdb2) (pa_cons (pe_bltn hg3 hm3 hv3 (v := .ty b2) rfl hn3 hdb3) pa_nil (hs := hs4)) (hs := hs3))) pa_nil (hs := hs2)) (hs := hs)) hn hdb hs hpl).imp fun σ H Q ⟨F, ι, S, env, st, o, S', e, q⟩ => ?_
  obtain ⟨d, S1, e1, e⟩ := Res.bind_ok e
  refine ⟨F, ι, S, env, st, d, S1, e1, fun v c1 s1 o1 r1 => ?_⟩
  split at e
  · rename_i r r2 hr hr2
    cases e
    obtain ⟨t, ht⟩ := isTy_tyN hr
    refine ⟨by show 2 ≤ sizeLine; decide, fun tp hp => ?_⟩
    obtain ⟨s2, o2, _⟩ := new_tup (ds := [.ty b, .ty b2]) (vs := [.ty b, .ty b2]) o1 hp (by show 2 ≤ sizeLine; decide) ⟨_, _, rfl, rfl, _, _, rfl, rfl, rfl⟩
    have r1' := r1.step s2
    refine ⟨v, tp, [.ty b, .ty b2], .type t, [.type b, .type b2], r || r2, rfl, upd_same, .cons (.ty b) (.cons (.ty b2) .nil), tyx_of' o2 r1' ht, ?_, q _ ⟨_, _, _⟩ (s1.trans s2) o2 rfl⟩
    refine kitAny_cons (kit_ty (isTy_kit hb ht hr)) (fun hf => ?_) (fun hf => by rw [hf]; rfl)
    refine kitAny_cons (kit_ty (isTy_kit hb2 ht hr2)) (fun hf2 => ?_) (fun hf2 => by rw [hf2, Bool.or_true])
    rw [hf, hf2]
    exact kitAny_nil
  · cases e
end

/-! ### min(xs, default=d), max(xs, default=d), xs a list of ints -/
def rMinDef (K : PySem.W.Frag) (g : Int → List Int → Int) : List V → List V → Hp → VK → Prop := fun xs zs H Q => ∃ (a : Addr) (ns : List Int) (z : V), xs = [V.ref a] ∧ zs = [z] ∧ SqL K H a (ns.map V.int) ∧
  Q (match ns with | [] => z | n :: ns => .int (g n ns)) H
theorem alike_ints0 (ns : List Int) : PySem.W.AlikeAll (ns.map PyData.int) := by
  cases ns with
  | nil => exact ⟨fun x hx => absurd hx (by simp), fun x hx => absurd hx (by simp)⟩
  | cons n ns => exact alike_ints n ns
theorem ints_cons {ns : List Int} {y : PyData} {ys : List PyData} (h : ns.map PyData.int = y :: ys) : ∃ n ms, ns = n :: ms ∧ y = .int n ∧ ys = ms.map .int := by
  cases ns with
  | nil => cases h
  | cons n ms => cases h; exact ⟨n, ms, rfl, rfl, rfl⟩
section
variable {X : Cx}
theorem crk_min (hc : X.calm = true) (hu : X.A.units + 64 < cLine) : CallRK X (.builtin "min") ["default"] (rMinDef X.K fun n ns => ns.foldl min n) := by
  intro pins s σ H xs zs us ws Q I r r2 h
  obtain ⟨a, ns, z, rfl, rfl, hs, q⟩ := h
  rw [Vals.ref1 r]
  obtain ⟨u, rfl, ru⟩ := r2.one
  obtain ⟨its, rv, hl, _⟩ := I.list hs
  refine PySem.W.min_list_default (I.ok.hd hc) hl.isList (xs := ns.map .int) (as := []) (readsAll_ints rv) (alike_ints0 ns) (by rw [depth_ints]; omega) (fun e h' tk hk => ?_) fun y ys i v h' tk bs e hv hr hk => ?_
  · have e' : ns = [] := List.map_eq_nil_iff.mp e
    subst e'
    exact ⟨z, H, I.kept hk, ru, q⟩
  · obtain ⟨n, ms, rfl, rfl, rfl⟩ := ints_cons e
    rw [PySem.W.minD_ints] at hr
    obtain ⟨t, rfl⟩ := of_reads_int hr
    exact ⟨.int _, H, I.kept hk, ⟨t, rfl⟩, q⟩
theorem crk_max (hc : X.calm = true) (hu : X.A.units + 64 < cLine) : CallRK X (.builtin "max") ["default"] (rMinDef X.K fun n ns => ns.foldl max n) := by
  intro pins s σ H xs zs us ws Q I r r2 h
  obtain ⟨a, ns, z, rfl, rfl, hs, q⟩ := h
  rw [Vals.ref1 r]
  obtain ⟨u, rfl, ru⟩ := r2.one
  obtain ⟨its, rv, hl, _⟩ := I.list hs
  refine PySem.W.max_list_default (I.ok.hd hc) hl.isList (xs := ns.map .int) (as := []) (readsAll_ints rv) (alike_ints0 ns) (by rw [depth_ints]; omega) (fun e h' tk hk => ?_) fun y ys i v h' tk bs e hv hr hk => ?_
  · have e' : ns = [] := List.map_eq_nil_iff.mp e
    subst e'
    exact ⟨z, H, I.kept hk, ru, q⟩
  · obtain ⟨n, ms, rfl, rfl, rfl⟩ := ints_cons e
    rw [PySem.W.maxD_ints] at hr
    obtain ⟨t, rfl⟩ := of_reads_int hr
    exact ⟨.int _, H, I.kept hk, ⟨t, rfl⟩, q⟩
variable {K : PySem.W.Frag} {B : Bas} {x : Str} {p pos kpos : Pos} {e e2 : Expr} {f f2 : EE} {id : String} {gg : Int → List Int → Int}
def eMinDef (gg : Int → List Int → Int) (f f2 : EE) : EE := fun env S => (f env S).bind fun d S => (f2 env S).bind fun z S => match d with
  | .lst xs => (match allInt xs with
    | some [] => .ok z S
    | some (n :: ns) => .ok (.int (gg n ns)) S
    | none => .stuck)
  | _ => .stuck
theorem d_minDef (hK : X.K = K) (hcr : CallRK X (.builtin id) ["default"] (rMinDef X.K gg)) (hg : Gl X x) (hm : X.mg x = none) (hv : bootBuiltins x = some (.builtin id)) (he : PE X e (tB K B f)) (he2 : PE X e2 (tD K B f2)) (hn : x ≠ "__name__" := by decide) (hdb : (x == ("__debug__" : Str)) = false := by decide)
    (hs : starEach [e] X.env = (false, eval e X.env) :: starEach [] X.env := by rfl)
    (hse : backTo pos (starEach [e] X.env) = (false, eval e X.env) :: backTo pos (starEach [] X.env) := by rfl) (hpl : (backTo pos (starEach [e] X.env)).any (·.1) = false := by rfl)
    (hall : (backToKw pos (keywordEach [⟨some "default", e2, kpos⟩] X.env)).all (·.1.isSome) = true := by rfl) (hnone : (backToKw pos (keywordEach [⟨some "default", e2, kpos⟩] X.env)).any (·.1.isNone) = false := by rfl) (hks : (backToKw pos (keywordEach [⟨some "default", e2, kpos⟩] X.env)).filterMap (·.1) = (["default"] : List Str) := by rfl) :
    PE X (.Call (.Name x p) [e] [⟨some "default", e2, kpos⟩] pos) (tD K B (eMinDef gg f f2)) := by
  subst hK
  refine (pe_callBK hcr hg hm hv (pa_cons he pa_nil (hs := hs)) (pk_cons he2 pk_nil) hn hdb hse hpl hall hnone hks).imp fun σ H Q ⟨F, ι, S, env, st, o, S', e, q⟩ => ?_
  obtain ⟨d, S1, e1, e⟩ := Res.bind_ok e
  obtain ⟨z, S2, e2, e⟩ := Res.bind_ok e
  refine ⟨F, ι, S, env, st, d, S1, e1, fun v c1 s1 o1 r1 => ?_⟩
  refine ⟨c1.F, c1.ι, S1, env, st.step s1 o1, z, S2, e2, fun v2 c2 s2 o2 r2 => ?_⟩
  split at e
  · rename_i xs
    obtain ⟨a, vs, ev, h1, hl, h2⟩ := (r1.step s2).lst o2
    split at e
    · rename_i hx
      cases e
      have hx' := allInt_map hx
      subst hx'
      have h2' := h2.ints
      subst h2'
      exact ⟨a, [], v2, by rw [ev], rfl, h1, q _ c2 (s1.trans s2) o2 r2⟩
    · rename_i n ns hx
      cases e
      have hx' := allInt_map hx
      subst hx'
      have h2' := h2.ints
      subst h2'
      exact ⟨a, n :: ns, v2, by rw [ev], rfl, h1, q _ c2 (s1.trans s2) o2 rfl⟩
    · cases e
  · cases e
end
end DL

/-! DL12: the rules, in the form in which they are printed. -/
namespace DL
open PySem PySem.Spec PyProof.Rows L2

/-! ### a new thing that changes -/
theorem new_mu {K : PySem.W.Frag} {c c' : Bas} {S : Sto} {ds : List D} {v : V} (s : Step c c') (ok : Sok K c' S) (n : NewAt K c c' ds v) :
    ∃ ι', Step c ⟨c'.F, ι', c'.H⟩ ∧ Sok K ⟨c'.F, ι', c'.H⟩ (S ++ [ds]) ∧ Rp K c'.F ι' (.mu S.length) v := by
  obtain ⟨a, vs, e, h1, h2, hl, h3, h4, h5⟩ := n
  have pre : c'.ι <+: c'.ι ++ [a] := List.prefix_append _ _
  have mem : ∀ b, b ∈ c'.ι ++ [a] → b ∈ c'.ι ∨ b = a := fun b hb => by simpa using hb
  refine ⟨c'.ι ++ [a], ⟨s.same, s.grow, s.fr, s.dom, s.pre.trans pre, fun b hb => ?_⟩, ⟨ok.f, ?_, by rw [List.length_append, List.length_append, ok.len]; rfl, fun b hb => ?_, fun i b es g1 g2 => ?_⟩, a, e, ?_⟩
  · rcases mem b hb with r | r
    · exact s.new b r
    · rw [r]; exact .inr h1
  · show (c'.ι ++ [a]).Nodup
    rw [List.nodup_append]
    exact ⟨ok.nd, by simp, fun x hx y hy e => h5 (by rw [List.mem_singleton.mp hy] at e; rw [← e]; exact hx)⟩
  · rcases mem b hb with r | r
    · exact ok.fi b r
    · rw [r]; exact h4
  · have g1' : (c'.ι ++ [a])[i]? = some b := g1
    by_cases hi : i < S.length
    · rw [List.getElem?_append_left (by rw [ok.len]; exact hi)] at g1'
      rw [List.getElem?_append_left hi] at g2
      obtain ⟨ws, k1, k2, k3⟩ := ok.s i b es g1' g2
      exact ⟨ws, k1, k2, RpAll.mono (Same.refl _) pre _ _ k3⟩
    · rw [List.getElem?_append_right (by rw [ok.len]; omega), ok.len] at g1'
      rw [List.getElem?_append_right (by omega)] at g2
      have hz : i - S.length = 0 := by
        have := (List.getElem?_eq_some_iff.mp g2).1
        simpa using this
      rw [hz] at g1' g2
      cases g1'
      cases g2
      exact ⟨vs, h2, hl, RpAll.mono (Same.refl _) pre _ _ h3⟩
  · show (c'.ι ++ [a])[S.length]? = some a
    rw [← ok.len, List.getElem?_append_right (Nat.le_refl _), Nat.sub_self]
    rfl
def eMu (l : EL) : EE := fun env S => (l env S).bind fun ds S => .ok (.mu S.length) (S ++ [ds])
section
variable {X : Cx} {B : Bas} {e e2 a b : Expr} {es : List Expr} {f g : EE} {l : EL} {p pos pos2 py spos apos : Pos} {x y : Str} {st : Stmt} {op : Operator}
theorem d_mu {K : PySem.W.Frag} (h : PE X e (tN K B l)) : PE X e (tD K B (eMu l)) := h.imp fun σ H Q ⟨F, ι, S, env, st, d, S', e, q⟩ => by
  obtain ⟨ds, S1, e1, e⟩ := Res.bind_ok e
  cases e
  refine ⟨F, ι, S, env, st, ds, _, e1, fun v c' s o n => ?_⟩
  obtain ⟨ι', s', o', r⟩ := new_mu s o n
  exact q v ⟨c'.F, ι', c'.H⟩ s' o' r
/-! names -/
theorem dv (i : Nat) (hN : X.N[i]? = some x := by rfl) (hv : Vis X.env.scope x := by first | exact Or.inl rfl | exact Or.inr (Or.inl rfl) | exact Or.inr (Or.inr rfl)) (hd : (x == ("__debug__" : Str)) = false := by decide)
    (hcd : (x == ("__classdict__" : Str)) = false := by decide) : PE X (.Name x pos) (tD X.K B (eV i)) := d_var (pv i hN hv hd hcd)
theorem bv (i : Nat) (hN : X.N[i]? = some x := by rfl) (hv : Vis X.env.scope x := by first | exact Or.inl rfl | exact Or.inr (Or.inl rfl) | exact Or.inr (Or.inr rfl)) (hd : (x == ("__debug__" : Str)) = false := by decide)
    (hcd : (x == ("__classdict__" : Str)) = false := by decide) : PE X (.Name x pos) (tB X.K B (eVb i)) := b_var (pv i hN hv hd hcd)
theorem gn (i : Nat) (hN : X.N.Nodup) (hi : X.N[i]? = some x := by rfl) (hx : Loc X.env.scope x := by first | exact Or.inl rfl | exact Or.inr rfl) (hf : X.fn x = true ∨ X.env.scope.names.lookup x = some .local := by first | exact .inl rfl | exact .inr rfl) :
    PG X (.Name x pos) (tG X.K B (gN i) [i]) := g_name (t := gName i) (pg_name hN hi hx hf)
/-! operators -/
theorem c_add (ha : PE X a (tB X.K B f)) (hb : PE X b (tB X.K B g)) : PE X (.BinOp a .Add b pos) (tD X.K B (eBin oAdd f g)) := d_bin op_add od_add ha hb
theorem c_sub (ha : PE X a (tB X.K B f)) (hb : PE X b (tB X.K B g)) : PE X (.BinOp a .Sub b pos) (tD X.K B (eBin oSub f g)) := d_bin op_sub od_sub ha hb
theorem c_mul (ha : PE X a (tB X.K B f)) (hb : PE X b (tB X.K B g)) : PE X (.BinOp a .Mult b pos) (tD X.K B (eBin oMul f g)) := d_bin op_mul od_mul ha hb
theorem c_mod (ha : PE X a (tB X.K B f)) (hb : PE X b (tB X.K B g)) : PE X (.BinOp a .Mod b pos) (tD X.K B (eBin oMod f g)) := d_bin op_mod od_mod ha hb
theorem c_fdiv (ha : PE X a (tB X.K B f)) (hb : PE X b (tB X.K B g)) : PE X (.BinOp a .FloorDiv b pos) (tD X.K B (eBin oFdiv f g)) := d_bin op_fdiv od_fdiv ha hb
theorem c_pow (ha : PE X a (tB X.K B f)) (hb : PE X b (tB X.K B g)) : PE X (.BinOp a .Pow b pos) (tD X.K B (eBin oPow f g)) := d_bin op_pow od_pow ha hb
/-- a comparison, as an operation: for values and tests alike -/
structure Cmp (X : Cx) (op : CmpOp) (o : Op2) : Prop where
  ex : ∃ r, OpR X (compareOp op) r ∧ OpD X.K r o
  ni : op ≠ .In
  nn : op ≠ .NotIn
theorem k_lt : Cmp X .Lt oLt := ⟨⟨_, op_lt, od_cmp⟩, by decide, by decide⟩
theorem k_le : Cmp X .LtE oLe := ⟨⟨_, op_le, od_cmp⟩, by decide, by decide⟩
theorem k_gt : Cmp X .Gt oGt := ⟨⟨_, op_gt, od_cmp⟩, by decide, by decide⟩
theorem k_ge : Cmp X .GtE oGe := ⟨⟨_, op_ge, od_cmp⟩, by decide, by decide⟩
theorem k_eq (hu : X.A.units + 64 < cLine) : Cmp X .Eq oEq := ⟨⟨_, op_eqP hu, od_eq⟩, by decide, by decide⟩
theorem k_ne (hu : X.A.units + 64 < cLine) : Cmp X .NotEq oNe := ⟨⟨_, op_neP hu, od_ne⟩, by decide, by decide⟩
theorem k_is : Cmp X .Is oIs := ⟨⟨_, op_isN, od_is⟩, by decide, by decide⟩
theorem k_isnot : Cmp X .IsNot oIsNot := ⟨⟨_, op_notN, od_isnot⟩, by decide, by decide⟩
theorem c_cmp {op : CmpOp} {o : Op2} (k : Cmp X op o) (ha : PE X a (tB X.K B f)) (hb : PE X b (tB X.K B g)) : PE X (.Compare a [op] [b] pos) (tD X.K B (eBin o f g)) := by
  obtain ⟨⟨r, h1, h2⟩, h3, h4⟩ := k
  exact d_cmp h1 h2 ha hb (nomark b h3 h4)
theorem q_cmp {op : CmpOp} {o : Op2} (k : Cmp X op o) (ha : PE X a (tB X.K B f)) (hb : PE X b (tB X.K B g)) : PT X (.Compare a [op] [b] pos) (tT X.K B (eTst (eBin o f g))) := by
  obtain ⟨⟨r, h1, h2⟩, h3, h4⟩ := k
  exact t_cmp h1 h2 ha hb (nomark b h3 h4)
theorem c_chain {op op' : CmpOp} {o o' : Op2} {c : Expr} {h : EE} (k : Cmp X op o) (k' : Cmp X op' o') (ha : PE X a (tB X.K B f)) (hb : PE X b (tB X.K B g)) (hc : PE X c (tB X.K B h)) (hm : lastMarks [op, op'] [b, c] = false := by with_unfolding_all rfl) :
    PE X (.Compare a [op, op'] [b, c] pos) (tD X.K B (eChain o o' f g h)) := by
  obtain ⟨⟨r, h1, h2⟩, _, _⟩ := k
  obtain ⟨⟨r', h1', h2'⟩, _, _⟩ := k'
  exact d_chain h1 h1' h2 h2' ha hb hc hm
theorem q_chain {op op' : CmpOp} {o o' : Op2} {c : Expr} {h : EE} (k : Cmp X op o) (k' : Cmp X op' o') (ha : PE X a (tB X.K B f)) (hb : PE X b (tB X.K B g)) (hc : PE X c (tB X.K B h)) (hm : lastMarks [op, op'] [b, c] = false := by with_unfolding_all rfl) :
    PT X (.Compare a [op, op'] [b, c] pos) (tT X.K B (eTst (eChain o o' f g h))) := by
  obtain ⟨⟨r, h1, h2⟩, _, _⟩ := k
  obtain ⟨⟨r', h1', h2'⟩, _, _⟩ := k'
  exact t_chain h1 h1' h2 h2' ha hb hc hm
theorem c_ix (ha : PE X a (tB X.K B f)) (hb : PE X b (tB X.K B g)) (hs : PlainIx b := by exact fun _ _ => rfl) : PE X (.Subscript a b pos) (tD X.K B (eBin oIx f g)) := d_ix ha hb hs rfl
theorem q_tru (h : PE X e (tB X.K B f)) (he : ∀ whole, isTrue e X.env whole = (do let v ← whole; standAt e.pos; holding [v] (truthy v)) := by intro _; rfl) : PT X e (tT X.K B (eTru f)) := t_tru h rfl he
/-! built-ins -/
theorem c_len (hm : X.mg "len" = none) (ha : PA X (e :: es) (tAB X.K B l)) (hg : Gl X "len" := by rfl) (he : starEach (e :: es) X.env = (false, eval e X.env) :: starEach es X.env := by rfl) (hpl : (backTo pos (starEach es X.env)).any (·.1) = false := by rfl) :
    PE X (.Call (.Name "len" p) (e :: es) [] pos) (tD X.K B (eBlt bLen l)) := d_callB call_len_seq cd_len hg hm PySem.boot_len ha (by decide) (by decide) he hpl
theorem c_int (hm : X.mg "int" = none) (ha : PA X (e :: es) (tAB X.K B l)) (hg : Gl X "int" := by rfl) (he : starEach (e :: es) X.env = (false, eval e X.env) :: starEach es X.env := by rfl) (hpl : (backTo pos (starEach es X.env)).any (·.1) = false := by rfl) :
    PE X (.Call (.Name "int" p) (e :: es) [] pos) (tD X.K B (eBlt bInt l)) := d_callTy call_int1 cd_int hg hm PyProof.Rows.boot_int ha (by decide) (by decide) he hpl
theorem c_abs (hm : X.mg "abs" = none) (ha : PA X (e :: es) (tAB X.K B l)) (hg : Gl X "abs" := by rfl) (he : starEach (e :: es) X.env = (false, eval e X.env) :: starEach es X.env := by rfl) (hpl : (backTo pos (starEach es X.env)).any (·.1) = false := by rfl) :
    PE X (.Call (.Name "abs" p) (e :: es) [] pos) (tD X.K B (eBlt bAbs l)) := d_callB call_abs cd_abs hg hm (by decide +kernel) ha (by decide) (by decide) he hpl
theorem c_max2 (hc : X.calm = true) (hm : X.mg "max" = none) (ha : PA X (e :: es) (tAB X.K B l)) (hg : Gl X "max" := by rfl) (he : starEach (e :: es) X.env = (false, eval e X.env) :: starEach es X.env := by rfl) (hpl : (backTo pos (starEach es X.env)).any (·.1) = false := by rfl) :
    PE X (.Call (.Name "max" p) (e :: es) [] pos) (tD X.K B (eBlt bMax2 l)) := d_callB (call_max2 hc) cd_max2 hg hm (by decide +kernel) ha (by decide) (by decide) he hpl
theorem c_min2 (hc : X.calm = true) (hm : X.mg "min" = none) (ha : PA X (e :: es) (tAB X.K B l)) (hg : Gl X "min" := by rfl) (he : starEach (e :: es) X.env = (false, eval e X.env) :: starEach es X.env := by rfl) (hpl : (backTo pos (starEach es X.env)).any (·.1) = false := by rfl) :
    PE X (.Call (.Name "min" p) (e :: es) [] pos) (tD X.K B (eBlt bMin2 l)) := d_callB (call_min2 hc) cd_min2 hg hm (by decide +kernel) ha (by decide) (by decide) he hpl
theorem c_max1 (hc : X.calm = true) (hu : X.A.units + 64 < cLine) (hm : X.mg "max" = none) (ha : PA X (e :: es) (tAB X.K B l)) (hg : Gl X "max" := by rfl) (he : starEach (e :: es) X.env = (false, eval e X.env) :: starEach es X.env := by rfl) (hpl : (backTo pos (starEach es X.env)).any (·.1) = false := by rfl) :
    PE X (.Call (.Name "max" p) (e :: es) [] pos) (tD X.K B (eBlt bMax l)) := d_callB (cr_maxI hc hu) cd_max hg hm (by decide +kernel) ha (by decide) (by decide) he hpl
theorem c_min1 (hc : X.calm = true) (hu : X.A.units + 64 < cLine) (hm : X.mg "min" = none) (ha : PA X (e :: es) (tAB X.K B l)) (hg : Gl X "min" := by rfl) (he : starEach (e :: es) X.env = (false, eval e X.env) :: starEach es X.env := by rfl) (hpl : (backTo pos (starEach es X.env)).any (·.1) = false := by rfl) :
    PE X (.Call (.Name "min" p) (e :: es) [] pos) (tD X.K B (eBlt bMin l)) := d_callB (cr_minI hc hu) cd_min hg hm (by decide +kernel) ha (by decide) (by decide) he hpl
theorem c_tuple (hm : X.mg "tuple" = none) (ha : PA X (e :: es) (tAB X.K B l)) (hg : Gl X "tuple" := by rfl) (he : starEach (e :: es) X.env = (false, eval e X.env) :: starEach es X.env := by rfl) (hpl : (backTo pos (starEach es X.env)).any (·.1) = false := by rfl) :
    PE X (.Call (.Name "tuple" p) (e :: es) [] pos) (tD X.K B (eBlt bTuple l)) := d_callTy call_tuple_of cd_tuple hg hm PyProof.Rows.boot_tuple ha (by decide) (by decide) he hpl
theorem c_any (hc : X.calm = true) (hm : X.mg "any" = none) (ha : PA X (e :: es) (tAB X.K B l)) (hg : Gl X "any" := by rfl) (he : starEach (e :: es) X.env = (false, eval e X.env) :: starEach es X.env := by rfl) (hpl : (backTo pos (starEach es X.env)).any (·.1) = false := by rfl) :
    PE X (.Call (.Name "any" p) (e :: es) [] pos) (tD X.K B (eBlt bAny l)) := d_callB (cr_any hc) cd_any hg hm PyProof.Rows.boot_any ha (by decide) (by decide) he hpl
theorem c_all (hc : X.calm = true) (hm : X.mg "all" = none) (ha : PA X (e :: es) (tAB X.K B l)) (hg : Gl X "all" := by rfl) (he : starEach (e :: es) X.env = (false, eval e X.env) :: starEach es X.env := by rfl) (hpl : (backTo pos (starEach es X.env)).any (·.1) = false := by rfl) :
    PE X (.Call (.Name "all" p) (e :: es) [] pos) (tD X.K B (eBlt bAll l)) := d_callB (cr_all hc) cd_all hg hm PyProof.Rows.boot_all ha (by decide) (by decide) he hpl
theorem c_list (hm : X.mg "list" = none) (ha : PA X (e :: es) (tAB X.K B l)) (hg : Gl X "list" := by rfl) (he : starEach (e :: es) X.env = (false, eval e X.env) :: starEach es X.env := by rfl) (hpl : (backTo pos (starEach es X.env)).any (·.1) = false := by rfl) :
    PE X (.Call (.Name "list" p) (e :: es) [] pos) (tN X.K B (eBltN bList l)) := n_callTy call_list_of cn_list hg hm PyProof.Rows.boot_list ha (by decide) (by decide) he hpl
theorem c_sorted (hu : X.A.units + 64 < cLine) (hm : X.mg "sorted" = none) (ha : PA X (e :: es) (tAB X.K B l)) (hg : Gl X "sorted" := by rfl) (he : starEach (e :: es) X.env = (false, eval e X.env) :: starEach es X.env := by rfl) (hpl : (backTo pos (starEach es X.env)).any (·.1) = false := by rfl) :
    PE X (.Call (.Name "sorted" p) (e :: es) [] pos) (tN X.K B (eBltN oSorted l)) := n_callB (cr_sortD hu) cn_sorted hg hm PyProof.Rows.boot_sorted ha (by decide) (by decide) he hpl
end
section
variable {X : Cx} {B : Bas} {e e2 a b : Expr} {es : List Expr} {f o k : EE} {l : EL} {p pos pos2 py spos apos : Pos} {x y : Str} {st : Stmt}
/-- a plain name, as what a method is asked of -/
theorem dvv (i : Nat) (hN : X.N[i]? = some x := by rfl) (hv : Vis X.env.scope x := by first | exact Or.inl rfl | exact Or.inr (Or.inl rfl) | exact Or.inr (Or.inr rfl)) (hd : (x == ("__debug__" : Str)) = false := by decide)
    (hcd : (x == ("__classdict__" : Str)) = false := by decide) : PE X (.Name x pos) (tVar i) := pv i hN hv hd hcd
theorem d_gint {i : Int} (h : ∃ t, X.mg x = some (.int i t)) (hg : Gl X x := by rfl) (hd : (x == ("__debug__" : Str)) = false := by decide) : PE X (.Name x pos) (tD X.K B (eC (.int i))) := by
  obtain ⟨t, h⟩ := h
  exact d_glob (v := .int i) hg h ⟨t, rfl⟩ (fun _ _ => rfl) hd
theorem s_setN {K : PySem.W.Frag} {i : Nat} (h : PS X st (tAsg (tN K B l) (gName i))) : PS X st (tK K B (sSet i (eLst l))) := h.imp fun E σ H ⟨F, ι, S, env, st, o, S', e, q⟩ => by
  obtain ⟨d, S1, e1, e⟩ := Res.bind_ok e
  cases e
  obtain ⟨ds, S2, e2, e⟩ := Res.bind_ok e1
  cases e
  refine ⟨F, ι, S, env, st, ds, _, e2, fun v c1 s1 o1 n1 => ?_⟩
  obtain ⟨F', s2, o2, r2⟩ := frz_new s1 o1 n1
  have st1 := st.step s2 o2
  exact q _ ⟨F', c1.ι, c1.H⟩ ⟨st1.ok, st1.env.set_sh i r2, st1.st⟩ s2.adv
theorem s_appA {i : Nat} {opos cpos : Pos} (hx : PE X a (tVar i)) (h : PE X e (tD X.K B f)) (hs : starEach [e] X.env = (false, eval e X.env) :: starEach [] X.env := by rfl)
    (hbase : attributeBase a "append" X.env (eval a X.env) = eval a X.env := by rfl)
    (hfew : ((backTo cpos (starEach [e] X.env)).all (fun x => !x.1) && (backToKw cpos (keywordEach [] X.env)).all (fun x => x.1.isSome)
      && decide ([e].length + ([] : List Keyword).length + (if ([] : List Keyword).isEmpty then 0 else 1) < 30)) = true := by rfl)
    (hline : (opos.endLine == cpos.line) = true := by rfl) (hplain : (backTo cpos (starEach [] X.env)).any (·.1) = false := by rfl)
    (hsw : swapsWith (.Call (.Attribute a "append" opos) [e] [] cpos) none pos.line X.env = pure false := by rfl) :
    PS X (.Expr (.Call (.Attribute a "append" opos) [e] [] cpos) pos) (tK X.K B (sApp i f)) :=
  s_app (apos := pos) rfl hx h hs (ps_expr (pe_bm PySem.F.plainAttrs_list PySem.F.slot_list_append PySem.F.type_list_append mt_append hx (pa_cons h pa_nil (hs := hs)) hbase hfew hline hs hplain) hsw)
theorem s_popA {i : Nat} {opos cpos : Pos} (hx : PE X a (tVar i)) (hbase : attributeBase a "pop" X.env (eval a X.env) = eval a X.env := by rfl) (hline : (opos.endLine == cpos.line) = true := by rfl)
    (hsw : swapsWith (.Call (.Attribute a "pop" opos) [] [] cpos) none pos.line X.env = pure false := by rfl) :
    PS X (.Expr (.Call (.Attribute a "pop" opos) [] [] cpos) pos) (tK X.K B (sPop i)) :=
  s_pop rfl (ps_expr (pe_bm0 PySem.F.plainAttrs_list PySem.F.slot_list_pop PySem.F.type_list_pop mt_pop hx hbase hline) hsw)
theorem s_storeA {tpos : Pos} (hv : PE X e (tD X.K B f)) (ho : PE X a (tD X.K B o)) (hi : PE X b (tD X.K B k))
    (ha : ∀ v, assign (.Subscript a b tpos) X.env v = (do
      let ov ← holding [v] (eval a X.env)
      let iv ← holding [v, ov] (eval b X.env)
      standAt tpos
      holding [v, ov, iv] (setItem ov iv v)
      release [v, ov, iv] []) := by intro _; rfl)
    (hs : swapsWithSole [.Subscript a b tpos] e pos.line X.env = pure false := by rfl) (hw : swappedStores [.Subscript a b tpos] e X.env = pure none := by rfl)
    (h1 : (assignEach [.Subscript a b tpos] X.env).map (·.2) = [assign (.Subscript a b tpos) X.env] := by rfl) :
    PS X (.Assign [.Subscript a b tpos] e pos) (tK X.K B (sStore f o k)) := s_store (tpos := tpos) hv ho hi (ps_asg hv (pg_sub ho hi set_list ha) hs hw h1)
end
end DL

/-! DLE: a law's end. -/
namespace DL
open PySem PySem.Spec PyProof.Rows L2
theorem rp_ints {K : PySem.W.Frag} {F : Hp} {ι : List Addr} : ∀ ns : List Int, RpAll K F ι (ns.map D.int) (ns.map V.int)
  | [] => rfl
  | n :: r => ⟨.int n, r.map V.int, rfl, rfl, rp_ints r⟩
theorem end_sp {K : PySem.W.Frag} {φ : List D → Sto → Res D} (math : ∀ ns : List Int, ns.length ≤ 63 → ∃ S', φ [.lst (ns.map .int)] [] = .ok (.bl true) S') {H : Hp} {a : Addr} {ns : List Int} (hl : ns.length ≤ 63) (hS : SqL K H a (ns.map V.int)) {E : XK} :
    spD K 1 φ [.ref a] H (fun v _ => v = .bl true) E := by
  obtain ⟨S', e⟩ := math ns hl
  have hz : (ns.map V.int).length ≤ sizeLine := by
    rw [List.length_map]
    exact Nat.le_trans hl (by decide)
  have fin : ∀ F : Hp, Same F H → SqL K F a (ns.map V.int) → spD K 1 φ [.ref a] H (fun v _ => v = .bl true) E := fun F hF h =>
    ⟨rfl, F, [], [], [.lst (ns.map .int)], ⟨hF, List.nodup_nil, rfl, fun a ha => (by cases ha), fun n a ds h1 => (by simp at h1)⟩, ⟨.ref a, [], rfl, ⟨a, ns.map V.int, rfl, h, hz, rp_ints ns⟩, rfl⟩, .bl true, S', e, fun v c' _ _ r => r⟩
  rcases hS with h | h
  · refine fin (fun b => if b = a then H a else none) (fun b o q => ?_) (.inl ?_)
    · have q' : (if b = a then H a else none) = some o := q
      split at q'
      · rename_i hb
        rw [hb]
        exact q'
      · cases q'
    · rcases h with h | ⟨o, h⟩
      · exact .inl (by show (if a = a then H a else none) = _; rw [if_pos rfl]; exact h)
      · exact .inr ⟨o, by show (if a = a then H a else none) = _; rw [if_pos rfl]; exact h⟩
  · exact fin (fun _ => none) (fun b o q => by cases q) (.inr h)
end DL

/-! DL16: is True, repr of a truth value, things that change: their slices, xs[::-1], xs + [..]. -/
namespace DL
open PySem PySem.Spec PyProof.Rows L2

def oIsB : Op2 := fun x y S => match x, y with
  | .bl a, .bl b => .ok (.bl (decide (a = b))) S
  | _, _ => .stuck
def oIsNotB : Op2 := fun x y S => match x, y with
  | .bl a, .bl b => .ok (.bl (!decide (a = b))) S
  | _, _ => .stuck
section
variable {K : PySem.W.Frag}
theorem od_isB : OpD K (fun x y H Q => ∃ a b, x = .bl a ∧ y = .bl b ∧ Q (.bl (decide (a = b))) H) oIsB := by
  intro B c S S' x y dx dy d ok hx hy e Q q
  unfold oIsB at e
  split at e
  · cases e
    exact ⟨_, _, hx.bl, hy.bl, q _ c (Step.refl c) ok rfl⟩
  · cases e
theorem od_isnotB : OpD K (fun x y H Q => ∃ a b, x = .bl a ∧ y = .bl b ∧ Q (.bl (!decide (a = b))) H) oIsNotB := by
  intro B c S S' x y dx dy d ok hx hy e Q q
  unfold oIsNotB at e
  split at e
  · cases e
    exact ⟨_, _, hx.bl, hy.bl, q _ c (Step.refl c) ok rfl⟩
  · cases e
end
theorem k_isB {X : Cx} : Cmp X .Is oIsB := ⟨⟨_, op_is_bl, od_isB⟩, by decide, by decide⟩
theorem k_isnotB {X : Cx} : Cmp X .IsNot oIsNotB := ⟨⟨_, op_isnot_bl, od_isnotB⟩, by decide, by decide⟩

/-! repr of a truth value -/
def bReprB : OpA := fun ds S => match ds with
  | [.bl b] => .ok (.str (if b then "True" else "False")) S
  | _ => .stuck
def rReprB : List V → Hp → VK → Prop := fun xs H Q => ∃ b, xs = [.bl b] ∧ Q (.str (if b then "True" else "False")) H
theorem cr_reprB {X : Cx} : CallR X (.builtin "repr") rReprB := by
  intro pins s σ H xs us Q I r h
  obtain ⟨b, rfl, q⟩ := h
  obtain ⟨u, rfl, r1⟩ := vals1 r
  cases (show u = Value.bool b from r1)
  exact PySem.P.repr_of_bool ⟨.str _, H, I.tok _, ⟨_, rfl⟩, q⟩
theorem cd_reprB {K : PySem.W.Frag} : CallD K rReprB bReprB := by
  intro B c S S' vs ds d ok h e Q q
  unfold bReprB at e
  split at e
  · cases e
    obtain ⟨v, rfl, r⟩ := h.one
    exact ⟨_, by rw [r.bl], q _ c (Step.refl c) ok rfl⟩
  · cases e

/-! ### lists that change, as operands -/
def seqL (S : Sto) : D → Option (List D)
  | .lst ds => some ds
  | .mu n => S[n]?
  | _ => none
theorem Rb.seqL {K : PySem.W.Frag} {B : Hp} {c : Bas} {S : Sto} {d : D} {ds : List D} {v : V} (ok : Sok K c S) (h : Rb K B c d v) (e : seqL S d = some ds) : ∃ a vs, v = .ref a ∧ SqL K c.H a vs ∧ vs.length ≤ sizeLine ∧ RpAll K c.F c.ι ds vs := by
  cases d with
  | lst xs => cases e; exact h.lst ok
  | mu n =>
    obtain ⟨a, vs, e1, _, h1, hl, h2⟩ := h.mu ok e
    exact ⟨a, vs, e1, SqL.of h1, hl, h2⟩
  | non => cases e
  | bl b => cases e
  | int b => cases e
  | str b => cases e
  | tup b => cases e
  | ty b => cases e
  | dct a b => cases e
theorem RpAll.reverse {K : PySem.W.Frag} {F : Hp} {ι : List Addr} : ∀ {ds : List D} {vs : List V}, RpAll K F ι ds vs → RpAll K F ι ds.reverse vs.reverse
  | [], _, h => by rw [show _ = [] from h]; exact rfl
  | d :: ds, _, ⟨v, r, h1, h2, h3⟩ => by
    subst h1
    rw [List.reverse_cons, List.reverse_cons]
    exact (RpAll.reverse h3).snoc h2
section
variable {X : Cx} {K : PySem.W.Frag} {B : Bas} {a b e : Expr} {f g : EE} {u v : EO} {l l' : EL} {pos p1 p2 p3 : Pos} {lo hi : Option Expr} {k : Nat}
def eRev (f : EE) : EL := fun env S => (f env S).bind fun x S => match seqL S x with
  | some ds => .ok ds.reverse S
  | none => .stuck
theorem n_rev (hK : X.K = K) (he : PE X e (tB K B f)) : PE X (.Subscript e (.Slice none none (some (.UnaryOp .USub (.Constant (.int 1) k p1) p2)) p3) pos) (tN K B (eRev f)) := by
  subst hK
  refine (pe_revL he).imp fun σ H Q ⟨F, ι, S, env, st, ys, S', e, q⟩ => ?_
  obtain ⟨d, S1, e1, e⟩ := Res.bind_ok e
  refine ⟨F, ι, S, env, st, d, S1, e1, fun v1 c1 s1 o1 r1 => ?_⟩
  split at e
  · rename_i ds hd
    cases e
    obtain ⟨a, vs, rfl, h1, hz, h2⟩ := r1.seqL o1 hd
    refine ⟨a, vs, rfl, h1, fun p hp => ?_⟩
    obtain ⟨s4, o4, n4⟩ := new_lst o1 hp (by rw [List.length_reverse]; exact hz) h2.reverse
    exact q _ ⟨_, _, _⟩ (s1.trans s4) o4 (n4.from s1)
  · cases e
/-- a slice of a list, one that changes too -/
def eSlS (f : EE) (u v : EO) : EL := fun env S => (f env S).bind fun d S => (u env S).bind fun lo S => (v env S).bind fun hi S => match seqL S d with
  | some ds => .ok (cutD ds lo hi) S
  | none => .stuck
theorem n_sliceS (hK : X.K = K) (he : PE X e (tB K B f)) (hl : PO X lo (tOI K B u)) (hu : PO X hi (tOI K B v)) : PE X (.Subscript e (.Slice lo hi none p2) pos) (tN K B (eSlS f u v)) := by
  subst hK
  refine (pe_slice sl_list he hl hu).imp fun σ H Q ⟨F, ι, S, env, st, ys, S', e, q⟩ => ?_
  obtain ⟨d, S1, e1, e⟩ := Res.bind_ok e
  obtain ⟨l, S2, e2, e⟩ := Res.bind_ok e
  obtain ⟨h, S3, e3, e⟩ := Res.bind_ok e
  refine ⟨F, ι, S, env, st, d, S1, e1, fun v1 c1 s1 o1 r1 => ?_⟩
  refine ⟨c1.F, c1.ι, S1, env, st.step s1 o1, l, S2, e2, fun c2 s2 o2 => ?_⟩
  refine ⟨c2.F, c2.ι, S2, env, st.step (s1.trans s2) o2, h, S3, e3, fun c3 s3 o3 => ?_⟩
  split at e
  · rename_i ds hd
    cases e
    obtain ⟨a, vs, rfl, h1, hz, h2⟩ := ((r1.step s2).step s3).seqL o3 hd
    refine ⟨a, vs, rfl, h1, fun p hp => ?_⟩
    obtain ⟨s4, o4, n4⟩ := new_lst o3 hp (Nat.le_trans (cutV_length _ _ _) hz) (h2.cut l h)
    exact q _ ⟨_, _, _⟩ (((s1.trans s2).trans s3).trans s4) o4 (n4.from ((s1.trans s2).trans s3))
  · cases e
/-- a thing that changes + a new list -/
def eCatM (f : EE) (l : EL) : EL := fun env S => (f env S).bind fun x S => (l env S).bind fun ys S => match x with
  | .mu n => (match S[n]? with
    | some xs => if xs.length + ys.length ≤ 1000000 then .ok (xs ++ ys) S else .stuck
    | none => .stuck)
  | _ => .stuck
theorem n_catM (ha : PE X a (tD K B f)) (hb : PE X b (tN K B l)) : PE X (.BinOp a .Add b pos) (tN K B (eCatM f l)) := (pe_op op_cat ha hb).imp fun σ H Q ⟨F, ι, S, env, st, ys, S', e, q⟩ => by
  obtain ⟨x, S1, e1, e⟩ := Res.bind_ok e
  obtain ⟨zs, S2, e2, e⟩ := Res.bind_ok e
  refine ⟨F, ι, S, env, st, x, S1, e1, fun v1 c1 s1 o1 r1 => ?_⟩
  refine ⟨c1.F, c1.ι, S1, env, st.step s1 o1, zs, S2, e2, fun v2 c2 s2 o2 n2 => ?_⟩
  split at e
  · rename_i n _
    split at e
    · rename_i xs hS
      split at e
      · rename_i hz
        cases e
        obtain ⟨p1, ev1, hp1⟩ := s2.rp r1
        obtain ⟨w1, b1, hl1, r1'⟩ := o2.s n p1 xs hp1 hS
        obtain ⟨p2, w2, ev2, a2, b2, d2, r2, f2, g2⟩ := n2
        have hl : w1.length + w2.length ≤ sizeLine := by rw [r1'.len, r2.len]; exact sizeM' hz
        refine ⟨p1, p2, w1, w2, ev1, ev2, b1, b2, hl, fun p hp => ?_⟩
        obtain ⟨s3, o3, n3⟩ := new_lst o2 hp (by rw [List.length_append]; exact hl) (r1'.append r2)
        exact q _ ⟨_, _, _⟩ ((s1.trans s2).trans s3) o3 (n3.from (s1.trans s2))
      · cases e
    · cases e
  · cases e
end
end DL

/-! DL17: calls by names; a, b = x, y; insert; dicts that are written down. -/
namespace DL
open PySem PySem.Spec PyProof.Rows L2

/-! ### calls by names -/
/-- m values by position, n by names; π: where each parameter's value stands -/
def gK {α : Type} (m n : Nat) (π : List Nat) (us ws : List α) : List α := if us.length = m ∧ ws.length = n then π.filterMap (fun i => (us ++ ws)[i]?) else []
section
variable {K : PySem.W.Frag} {F : Hp} {ι : List Addr}
theorem RpAll.pick {ds : List D} {vs : List V} (h : RpAll K F ι ds vs) : ∀ π : List Nat, RpAll K F ι (π.filterMap (fun i => ds[i]?)) (π.filterMap (fun i => vs[i]?))
  | [] => rfl
  | i :: π => by
    have ih := RpAll.pick h π
    cases e : ds[i]? with
    | none =>
      have e2 : vs[i]? = none := by
        rw [List.getElem?_eq_none_iff] at e ⊢
        rw [h.len]
        exact e
      rw [List.filterMap_cons_none e, List.filterMap_cons_none e2]
      exact ih
    | some d =>
      obtain ⟨v, e2, r⟩ := h.get e
      rw [List.filterMap_cons_some e, List.filterMap_cons_some e2]
      exact ⟨v, _, rfl, r, ih⟩
theorem RpAll.gK {ds es : List D} {vs ws : List V} (h : RpAll K F ι ds vs) (h2 : RpAll K F ι es ws) {m n : Nat} {π : List Nat} : RpAll K F ι (gK m n π ds es) (gK m n π vs ws) := by
  unfold DL.gK
  rw [h.len, h2.len]
  split
  · exact (h.append h2).pick π
  · exact rfl
end
theorem Vals.pick {vs : List V} {us : List Value} (h : Vals vs us) : ∀ π : List Nat, Vals (π.filterMap (fun i => vs[i]?)) (π.filterMap (fun i => us[i]?))
  | [] => .nil
  | i :: π => by
    have ih := Vals.pick h π
    have hl := h.length
    cases e : vs[i]? with
    | none =>
      have e2 : us[i]? = none := by
        rw [List.getElem?_eq_none_iff] at e ⊢
        omega
      rw [List.filterMap_cons_none e, List.filterMap_cons_none e2]
      exact ih
    | some v =>
      obtain ⟨u, e2, r⟩ := h.get e
      rw [List.filterMap_cons_some e, List.filterMap_cons_some e2]
      exact .cons r ih
theorem kbinds_of {K : PySem.W.Frag} {fd : FuncData} {ps ks : List Str} {m n : Nat} {π : List Nat} (h0 : ps ≠ []) (h : ∀ us ws : List Value, us.length = m → ws.length = n → bindArgs fd ⟨us, ks.zip ws⟩ = pure (ps.zip (gK m n π us ws))) : KBinds K fd ps ks (gK m n π) (gK m n π) where
  to := fun s us ws _ hl => by
    by_cases hc : us.length = m ∧ ws.length = n
    · exact .of_eq (h us ws hc.1 hc.2)
    · unfold gK at hl
      rw [if_neg hc] at hl
      exact absurd (List.length_eq_zero_iff.mp hl.symm) h0
  rel := fun {vs us zs ws} h1 h2 => by
    have e1 := h1.length
    have e2 := h2.length
    unfold gK
    rw [e1, e2]
    split
    · exact Vals.pick (h1.append h2) π
    · exact .nil
section
variable {X : Cx} {CX : CXT} {k m n : Nat} {π : List Nat} {f : Addr} {fd : FuncData} {ps ks : List Str} {x : Str} {p pos : Pos} {e : Expr} {es : List Expr} {K : PySem.W.Frag} {B : Bas} {φ : List D → Sto → Res D} {l l2 : EL} {sp : Sp} {E : XK} {t tk : TA} {kws : List Keyword} {g : List Value → List Value → List Value} {gV : List V → List V → List V}
theorem pe_callK0 (F : FnOk X.prog X.w X.K X.mg X.base CX k f fd ps sp) (hr : Room k X.A) (hg : Gl X x) (hm : X.mg x = some (.ref f)) (hk : PySem.W.keepIn X.K (.ref f) = true) (hb : KBinds X.K fd ps ks g gV) (hx : Passes CX X E)
    (hkw : PK X kws tk) (hall : (backToKw pos (keywordEach kws X.env)).all (·.1.isSome) = true := by rfl) (hks : (backToKw pos (keywordEach kws X.env)).filterMap (·.1) = ks := by rfl)
    (hdb : (x == ("__debug__" : Str)) = false := by decide)
    (hpl : ((backTo pos (starEach [] X.env)).any (·.1) || (backToKw pos (keywordEach kws X.env)).any (·.1.isNone)) = false := by rfl) :
    PE X (.Call (.Name x p) [] kws pos) (tCallK sp gV E tNil tk) := by
  refine ⟨fun pins s σ H Q I h => ?_⟩
  refine wpAny_Call_Name_kw (ld_glob I hg hm ?_ hdb)
  refine PySem.W.callWith_KW0 (h₀ := X.base) I.ok.mod.kin hk hall (thn (hkw.run pos pins s σ H _ I h) fun ws s2 ⟨zs, H2, I2, rz, q2⟩ => ⟨I2.kIn, ?_⟩) hpl
  rw [hks]
  exact run_fnk (us := []) (vs := []) F hr hb hx I2 .nil rz q2
theorem kw_nil : PK X [] (tA K B eNil) := ⟨fun pos pins s σ H Q I ⟨F, ι, S, env, st, d, S', e, k⟩ => by
  cases e
  exact pk_nil.run pos pins s σ H Q I (k [] _ (Step.refl _) st.ok rfl)⟩
theorem kw_cons {nm : Option Str} {kpos : Pos} {fe : EE} (ha : PE X e (tD K B fe)) (hr : PK X kws (tA K B l)) : PK X (⟨nm, e, kpos⟩ :: kws) (tA K B (eCons fe l)) := ⟨fun pos pins s σ H Q I ⟨F, ι, S, env, st, d, S', e, k⟩ => by
  obtain ⟨x, S1, e1, e⟩ := Res.bind_ok e
  obtain ⟨y, S2, e2, e⟩ := Res.bind_ok e
  cases e
  refine (pk_cons ha hr).run pos pins s σ H Q I ?_
  refine ⟨F, ι, S, env, st, x, S1, e1, fun v1 c1 s1 o1 r1 => ?_⟩
  refine ⟨c1.F, c1.ι, S1, env, st.step s1 o1, y, _, e2, fun v2 c2 s2 o2 r2 => ?_⟩
  exact k _ c2 (s1.trans s2) o2 ⟨v1, v2, rfl, s2.rp r1, r2⟩⟩
def eCallK (φ : List D → Sto → Res D) (m n : Nat) (π : List Nat) (l l2 : EL) : EE := fun env S => (l env S).bind fun ds S => (l2 env S).bind fun es S => if (gK m n π ds es).length = π.length then φ (gK m n π ds es) S else .stuck
theorem d_callK (F : FnOk X.prog X.w X.K X.mg X.base CX0 k f fd ps (spD K π.length φ)) (hr : Room k X.A) (hg : Gl X x) (hm : X.mg x = some (.ref f)) (hk : PySem.W.keepIn X.K (.ref f) = true) (hb : KBinds X.K fd ps ks (gK m n π) (gK m n π))
    (ha : PA X (e :: es) (tA K B l)) (hkw : PK X kws (tA K B l2)) (hall : (backToKw pos (keywordEach kws X.env)).all (·.1.isSome) = true := by rfl) (hks : (backToKw pos (keywordEach kws X.env)).filterMap (·.1) = ks := by rfl)
    (hdb : (x == ("__debug__" : Str)) = false := by decide) (he : starEach (e :: es) X.env = (false, eval e X.env) :: starEach es X.env := by rfl)
    (hpl : ((backTo pos (starEach (e :: es) X.env)).any (·.1) || (backToKw pos (keywordEach kws X.env)).any (·.1.isNone)) = false := by rfl) :
    PE X (.Call (.Name x p) (e :: es) kws pos) (tD K B (eCallK φ m n π l l2)) := (pe_callK (E := E0) F hr hg hm hk hb pass0 ha hkw hall hks hdb he hpl).imp fun σ H Q ⟨F, ι, S, env, st, d, S', e, q⟩ => by
  obtain ⟨ds, S1, e1, e⟩ := Res.bind_ok e
  obtain ⟨fs, S2, e2, e⟩ := Res.bind_ok e
  split at e
  · rename_i hlen
    refine ⟨F, ι, S, env, st, ds, S1, e1, fun vs c1 s1 o1 r1 => ?_⟩
    refine ⟨c1.F, c1.ι, S1, env, st.step s1 o1, fs, S2, e2, fun zs c2 s2 o2 r2 => ?_⟩
    have r3 := (s2.rpAll r1).gK r2 (m := m) (n := n) (π := π)
    exact ⟨by rw [r3.len]; exact hlen, c2.F, c2.ι, S2, _, o2, r3, d, S', e, fun v c' s o r => q v c' ((s1.trans s2).trans s) o r⟩
  · cases e
theorem d_callK0 (F : FnOk X.prog X.w X.K X.mg X.base CX0 k f fd ps (spD K π.length φ)) (hr : Room k X.A) (hg : Gl X x) (hm : X.mg x = some (.ref f)) (hk : PySem.W.keepIn X.K (.ref f) = true) (hb : KBinds X.K fd ps ks (gK 0 n π) (gK 0 n π))
    (hkw : PK X kws (tA K B l2)) (hall : (backToKw pos (keywordEach kws X.env)).all (·.1.isSome) = true := by rfl) (hks : (backToKw pos (keywordEach kws X.env)).filterMap (·.1) = ks := by rfl)
    (hdb : (x == ("__debug__" : Str)) = false := by decide)
    (hpl : ((backTo pos (starEach [] X.env)).any (·.1) || (backToKw pos (keywordEach kws X.env)).any (·.1.isNone)) = false := by rfl) :
    PE X (.Call (.Name x p) [] kws pos) (tD K B (eCallK φ 0 n π eNil l2)) := (pe_callK0 (E := E0) F hr hg hm hk hb pass0 hkw hall hks hdb hpl).imp fun σ H Q ⟨F, ι, S, env, st, d, S', e, q⟩ => by
  obtain ⟨ds, S1, e1, e⟩ := Res.bind_ok e
  cases e1
  obtain ⟨fs, S2, e2, e⟩ := Res.bind_ok e
  split at e
  · rename_i hlen
    refine ⟨F, ι, _, env, st, fs, S2, e2, fun zs c2 s2 o2 r2 => ?_⟩
    have r3 := (show RpAll K c2.F c2.ι [] [] from rfl).gK r2 (m := 0) (n := n) (π := π)
    exact ⟨by rw [r3.len]; exact hlen, c2.F, c2.ι, S2, _, o2, r3, d, S', e, fun v c' s o r => q v c' (s2.trans s) o r⟩
  · cases e
end
end DL

/-! DL18: a, b = x, y; insert; dicts that are written down. -/
namespace DL
open PySem PySem.Spec PyProof.Rows L2

section
variable {X : Cx} {K : PySem.W.Frag} {B : Bas} {a b e e1 e2 : Expr} {f g o k : EE} {l : EL} {pos px py pt pt2 cpos opos : Pos} {x y : Str} {kt k2 i j : Nat} {st : Stmt}
/-! ### a, b = x, y -/
def sPar (i j : Nat) (l : EL) : SS := fun env S => (l env S).bind fun ds S => match ds with
  | [d, e] => .ok (.nx ((env.set i (some (.sh d))).set j (some (.sh e)))) S
  | _ => .stuck
theorem s_par (h : PS X st (tPar i j (tA K B l))) : PS X st (tK K B (sPar i j l)) := h.imp fun E σ H ⟨F, ι, S, env, st, oo, S', e, q⟩ => by
  obtain ⟨ds, S1, e1, e⟩ := Res.bind_ok e
  refine ⟨F, ι, S, env, st, ds, S1, e1, fun vs c1 s1 o1 r1 => ?_⟩
  split at e
  · cases e
    obtain ⟨v, r, rfl, h1, w, r2, rfl, h2, e3⟩ := r1
    cases (show r2 = [] from e3)
    have st1 := st.step s1 o1
    exact ⟨v, w, rfl, q _ c1 ⟨st1.ok, (st1.env.set_sh i h1).set_sh j h2, st1.st⟩ s1.adv⟩
  · cases e
/-! ### xs.insert(i, e), xs a thing that changes -/
def sIns (o k f : EE) : SS := fun env S => (o env S).bind fun x S => (k env S).bind fun i S => (f env S).bind fun d S => match x, i with
  | .mu n, .int j => (match S[n]? with
    | some ds => if ds.length ≤ 1000000 ∧ 0 ≤ j ∧ j < 1000000000 then .ok (.nx env) (S.set n (ds.take j.toNat ++ [d] ++ ds.drop j.toNat)) else .stuck
    | none => .stuck)
  | _, _ => .stuck
end
/-- the thing n gets another content -/
theorem Stt.mu_upd {K : PySem.W.Frag} {B c : Bas} {S : Sto} {σ : St} {env : Env} {n : Nat} {p : Addr} {ds : List D} {vs : List V} (st : Stt K B c S σ env) (hp : c.ι[n]? = some p) (hl : vs.length ≤ sizeLine) (r : RpAll K c.F c.ι ds vs) :
    Stt K B ⟨c.F, c.ι, upd c.H p (.lst vs)⟩ (S.set n ds) σ env := by
  have pm : p ∈ c.ι := List.mem_of_getElem? hp
  have pF : c.F p = none := st.ok.fi p pm
  have nH : c.H p ≠ none := by
    obtain ⟨hn, _⟩ := List.getElem?_eq_some_iff.mp hp
    have hn' : n < S.length := by rw [← st.ok.len]; exact hn
    obtain ⟨ws, h1, _⟩ := st.ok.s n p S[n] hp (List.getElem?_eq_getElem hn')
    rw [h1]; exact fun z => by cases z
  refine ⟨⟨fun b u q => ?_, st.ok.nd, by rw [List.length_set]; exact st.ok.len, st.ok.fi, fun m b es g1 g2 => ?_⟩, ⟨st.env.len, fun i x e => ?_, st.env.inj⟩, ⟨st.st.same, st.st.grow, fun b u q nb nt => ?_, fun b nb => ?_, st.st.pre, st.st.new⟩⟩
  · have hb : b ≠ p := fun z => by
      rw [z, show (Bas.mk c.F c.ι (upd c.H p (.lst vs))).F = c.F from rfl, pF] at q; cases q
    show upd c.H p (.lst vs) b = some u
    rw [upd_ne hb]
    exact st.ok.f b u q
  · by_cases hm : m = n
    · subst hm
      have hb : b = p := by
        have g1' : c.ι[m]? = some b := g1
        rw [hp] at g1'; exact (Option.some.inj g1').symm
      subst hb
      have hlt : m < S.length := by
        have := (List.getElem?_eq_some_iff.mp g2).1
        rw [List.length_set] at this
        exact this
      rw [List.getElem?_set_self hlt] at g2
      cases g2
      exact ⟨vs, upd_same, hl, r⟩
    · rw [List.getElem?_set_ne (fun z => hm z.symm)] at g2
      obtain ⟨ws, k1, k2, k3⟩ := st.ok.s m b es g1 g2
      have hb : b ≠ p := fun z => by
        subst z
        have g1' : c.ι[m]? = some b := g1
        obtain ⟨a1, b1⟩ := List.getElem?_eq_some_iff.mp g1'
        obtain ⟨a2, b2⟩ := List.getElem?_eq_some_iff.mp hp
        exact hm ((List.getElem_inj st.ok.nd).mp (b1.trans b2.symm))
      refine ⟨ws, ?_, k2, k3⟩
      show upd c.H p (.lst vs) b = some _
      rw [upd_ne hb]
      exact k1
  · obtain ⟨v, h1, h2⟩ := st.env.at_ i x e
    refine ⟨v, h1, ?_⟩
    cases x with
    | sh d => exact h2
    | own es =>
      obtain ⟨b, ws, e2, k1, k2, k3, k4, k5, k6⟩ := h2
      refine ⟨b, ws, e2, ?_, k2, k3, k4, k5, k6⟩
      show upd c.H p (.lst vs) b = some _
      rw [upd_ne (fun z => k5 (by rw [z]; exact pm))]
      exact k1
  · have hcb : c.H b = some u := st.st.fr b u q nb nt
    have hb : b ≠ p := fun z => by
      subst z
      rcases st.st.new b pm with r1 | r1
      · exact nb r1
      · rw [q] at r1; cases r1
    show upd c.H p (.lst vs) b = some u
    rw [upd_ne hb]
    exact hcb
  · show upd c.H p (.lst vs) b ≠ none
    by_cases hb : b = p
    · subst hb; rw [upd_same]; exact fun z => by cases z
    · rw [upd_ne hb]; exact st.st.dom b nb
section
variable {X : Cx} {K : PySem.W.Frag} {B : Bas} {a b e e1 e2 : Expr} {f g o k : EE} {l : EL} {pos px py pt pt2 cpos opos : Pos} {x y : Str} {kt k2 i j : Nat} {st : Stmt}
def rIns : V → List V → Hp → VK → Prop := fun x vs H Q => ∃ (l : Addr) (xs : List V) (i : Int) (y : V), x = .ref l ∧ vs = [.int i, y] ∧ H l = some (.lst xs) ∧ xs.length < sizeLine ∧ 0 ≤ i ∧ i < 2 ^ 63 ∧
    Q .non (upd H l (.lst (xs.take i.toNat ++ [y] ++ xs.drop i.toNat)))
theorem s_ins (hp : PS X st (tDrop (tBM X.K "list" rIns (tD X.K B o) (tCons (tD X.K B k) (tCons (tD X.K B f) tNil))))) : PS X st (tK X.K B (sIns o k f)) := hp.imp fun E σ H ⟨F, ι, S, env, st, oo, S', e, q⟩ => by
  obtain ⟨x, S1, e1, e⟩ := Res.bind_ok e
  obtain ⟨i, S2, e2, e⟩ := Res.bind_ok e
  obtain ⟨d, S3, e3, e⟩ := Res.bind_ok e
  refine ⟨F, ι, S, env, st, x, S1, e1, fun v1 c1 s1 o1 r1 => ?_⟩
  cases x with
  | mu n =>
    cases i with
    | int j =>
      have e' : (match S3[n]? with
        | some ds => if ds.length ≤ 1000000 ∧ 0 ≤ j ∧ j < 1000000000 then Res.ok (Out.nx env) (S3.set n (ds.take j.toNat ++ [d] ++ ds.drop j.toNat)) else .stuck
        | none => .stuck) = .ok oo S' := e
      cases hS : S3[n]? with
      | none => rw [hS] at e'; cases e'
      | some ds =>
        rw [hS] at e'
        have e'' : (if ds.length ≤ 1000000 ∧ 0 ≤ j ∧ j < 1000000000 then Res.ok (Out.nx env) (S3.set n (ds.take j.toNat ++ [d] ++ ds.drop j.toNat)) else .stuck) = .ok oo S' := e'
        split at e''
        · rename_i hz
          cases e''
          obtain ⟨p, ev, hp⟩ := r1
          subst ev
          have hn1 : n < S1.length := by
            rw [← o1.len]; exact (List.getElem?_eq_some_iff.mp hp).1
          obtain ⟨us, g1, g2, g3⟩ := o1.s n p S1[n] hp (List.getElem?_eq_getElem hn1)
          refine ⟨.inl ⟨rfl, us, SqL.of g1⟩, c1.F, c1.ι, S1, env, st.step s1 o1, _, S2, e2, fun v2 c2 s2 o2 r2 => ?_⟩
          refine ⟨c2.F, c2.ι, S2, env, st.step (s1.trans s2) o2, d, S3, e3, fun v3 c3 s3 o3 r3 => ?_⟩
          have hp3 : c3.ι[n]? = some p := pre_get s3.pre (pre_get s2.pre hp)
          obtain ⟨vs, k1, k2, k3⟩ := o3.s n p ds hp3 hS
          have hv : vs.length < sizeLine := by rw [k3.len]; exact Nat.lt_of_le_of_lt hz.1 (by decide)
          refine ⟨p, vs, j, v3, rfl, ?_, k1, hv, hz.2.1, Int.lt_trans hz.2.2 (by decide), ?_⟩
          · cases (show v2 = V.int j from r2); rfl
          have hl : (vs.take j.toNat ++ [v3] ++ vs.drop j.toNat).length ≤ sizeLine := by
            rw [List.length_append, List.length_append, List.length_take, List.length_drop, List.length_singleton]
            omega
          have st3 := (st.step ((s1.trans s2).trans s3) o3).mu_upd hp3 hl (((k3.take j.toNat).snoc r3).append (k3.drop j.toNat))
          exact q σ ⟨c3.F, c3.ι, _⟩ st3 ⟨((s1.trans s2).trans s3).same, ((s1.trans s2).trans s3).pre⟩
        · cases e''
    | _ => cases e
  | _ => cases e
theorem s_insA (ho : PE X a (tD X.K B o)) (hk : PE X e1 (tD X.K B k)) (h : PE X e2 (tD X.K B f)) (hs : starEach [e1, e2] X.env = (false, eval e1 X.env) :: starEach [e2] X.env := by rfl) (hs2 : starEach [e2] X.env = (false, eval e2 X.env) :: starEach [] X.env := by rfl)
    (hbase : attributeBase a "insert" X.env (eval a X.env) = eval a X.env := by rfl)
    (hfew : ((backTo cpos (starEach [e1, e2] X.env)).all (fun x => !x.1) && (backToKw cpos (keywordEach [] X.env)).all (fun x => x.1.isSome)
      && decide ([e1, e2].length + ([] : List Keyword).length + (if ([] : List Keyword).isEmpty then 0 else 1) < 30)) = true := by rfl)
    (hline : (opos.endLine == cpos.line) = true := by rfl) (hplain : (backTo cpos (starEach [e2] X.env)).any (·.1) = false := by rfl)
    (hsw : swapsWith (.Call (.Attribute a "insert" opos) [e1, e2] [] cpos) none pos.line X.env = pure false := by rfl) :
    PS X (.Expr (.Call (.Attribute a "insert" opos) [e1, e2] [] cpos) pos) (tK X.K B (sIns o k f)) :=
  s_ins (ps_expr (pe_bm PySem.F.plainAttrs_list PySem.F.slot_list_insert PySem.F.type_list_insert mt_insert ho (pa_cons hk (pa_cons h pa_nil (hs := hs2)) (hs := hs)) hbase hfew hline hs hplain) hsw)
end
end DL

/-! DL19: dicts that are written down. -/
namespace DL
open PySem PySem.Spec PyProof.Rows L2

/-- {k: v}, k a tuple of ints and texts -/
def tDisp1T (tk tv : TE) : TE := fun σ H Q => ∀ p, H p = none → tk σ (upd H p (.dT [])) fun x H1 => tv σ H1 fun y H2 => ∃ b key, x = .ref b ∧ H2 p = some (.dT []) ∧ H2 b = some (.tup (List.map kV key)) ∧ Q (.ref p) (upd H2 p (.dT [(key, y)]))
theorem pe_disp1T {X : Cx} {k v : Expr} {tk tv : TE} {pos : Pos} (hu : X.A.units + 1 < cLine) (hk : PE X k tk) (hv : PE X v tv) : PE X (.Dict [some k] [v] pos) (tDisp1T tk tv) := by
  refine ⟨fun pins s σ H Q I q => ?_⟩
  have hn := I.hok.fresh (Nat.le_refl s.heap.objs.size)
  have I1 := I.laid (a := s.heap.objs.size) (o := .dT []) (h' := s.heap.push { cls := .type "dict", data := .dict #[] }) (t' := s.toks) (fun _ _ q => Heap.get?_push_of_some _ q) (Nat.le_refl _) (dt_empty s.heap I.big)
  have q0 := q _ hn
  rw [arm_eval_Dict, zip_pairTrees [some k] [v] X.env pos rfl rfl, dictDisplay_pairs _ (by simp [pairTrees]) (by simp [pairTrees])]
  refine wpAny_bind (wpAny_standAt (wpAny_bind ?_))
  unfold subDict
  refine wpAny_bind (wpAny_alloc ?_)
  refine wpAny_bind (wpAny_holding ?_)
  rw [if_pos (by simp [pairTrees])]
  refine wpAny_bind (pairTrees_cons_walk (thn (hk.run pins _ σ _ _ I1 q0) fun u s1 ⟨x, H1, I2, rx, q1⟩ => thn (hv.run pins s1 σ H1 _ I2 q1) fun w2 s2 ⟨y, H2, I3, ry, b, key, ex, hp, hb, q2⟩ => pairTrees_nil_walk ?_))
  subst ex
  obtain rfl : u = Value.ref b := rx
  refine wpAny_holding (wpAny_bind ?_)
  rw [List.forIn_cons]
  obtain ⟨z, hd, xs, rel, dd⟩ := dt_of I3.hok hp
  cases rel
  refine wpAny_bind (wpAny_bind (wpAny_dictSet_heap (knd := tupleKind (mixKind X.prog X.w)) (hsz := Nat.zero_le _) (show (tupleKind (mixKind X.prog X.w)).room X.A from (show X.A.units < cLine by omega)) (key_of I3.hok hb) dd fun h' dd' hs => wpAny_pure ?_))
  show wpAny (model X.prog X.w) X.A (pure PUnit.unit) _ _ _
  refine wpAny_pure (wpAny_pure (wpAny_pure (wpAny_pure ⟨.ref s.heap.objs.size, _, ?_, rfl, q2⟩)))
  obtain ⟨qq, es, ep, hq, h2, h3, h4, _, h5⟩ := dd'
  refine d_write I3 (by rw [hp]; exact True.intro) hs ⟨qq, hq⟩ ⟨by simp [sizeLine_eq], hd, _, ((KT.put (kvs := []) (xs := []) .nil key hb ry).keeps fun c ys ec => ?_), qq, es, ep, hq, h2, h3, h4, h5⟩
  rw [upd_ne (ne_of ec hp (fun z => nomatch z))]
  exact ec
end DL

/-! DL20: dicts that are written down, as data. -/
namespace DL
open PySem PySem.Spec PyProof.Rows L2
section
variable {K : PySem.W.Frag} {B : Bas}
/-- a new thing at p, which never changes -/
theorem new_obj {c : Bas} {S : Sto} {p : Addr} (ob : HO) (ok : Sok K c S) (hp : c.H p = none) :
    Step c ⟨upd c.F p ob, c.ι, upd c.H p ob⟩ ∧ Sok K ⟨upd c.F p ob, c.ι, upd c.H p ob⟩ S ∧ Same c.F (upd c.F p ob) := by
  have hF : c.F p = none := by
    cases q : c.F p with
    | none => rfl
    | some o => rw [ok.f p o q] at hp; cases hp
  have hι : p ∉ c.ι := fun hm => by
    obtain ⟨n, hn, e⟩ := List.mem_iff_getElem.mp hm
    have hn' : n < S.length := by rw [← ok.len]; exact hn
    obtain ⟨ws, h1, _⟩ := ok.s n p S[n] (by rw [List.getElem?_eq_getElem hn, e]) (List.getElem?_eq_getElem hn')
    rw [hp] at h1; cases h1
  have kp : ∀ a o, c.H a = some o → upd c.H p ob a = some o := fun a o e => by
    rw [upd_ne (ne_of_none e hp)]
    exact e
  have kF : Same c.F (upd c.F p ob) := fun a o e => by
    rw [upd_ne (ne_of_none e hF)]
    exact e
  refine ⟨⟨kF, fun a o e => ?_, fun a o e _ _ => kp a o e, fun a n => ?_, List.prefix_rfl, fun _ h => .inl h⟩, ⟨fun a o e => ?_, ok.nd, ok.len, fun a ha => ?_, fun n a es h1 h2 => ?_⟩, kF⟩
  · by_cases hb : a = p
    · subst hb; exact .inr hp
    · have e' : upd c.F p ob a = some o := e
      rw [upd_ne hb] at e'
      exact .inl e'
  · cases q : c.H a with
    | none => exact absurd q n
    | some o =>
      show upd c.H p ob a ≠ none
      rw [kp a o q]
      exact fun z => by cases z
  · have e' : upd c.F p ob a = some o := e
    by_cases hb : a = p
    · subst hb
      rw [upd_same] at e'
      rw [← e']
      exact upd_same
    · rw [upd_ne hb] at e'
      exact kp a o (ok.f a o e')
  · show upd c.F p ob a = none
    rw [upd_ne (fun z => hι (by rw [← z]; exact ha))]
    exact ok.fi a ha
  · obtain ⟨ws, g1, g2, g3⟩ := ok.s n a es h1 h2
    exact ⟨ws, kp _ _ g1, g2, RpAll.mono kF List.prefix_rfl _ _ g3⟩
/-- a new thing at p, which is not data yet -/
theorem new_hid {c : Bas} {S : Sto} {p : Addr} (ob : HO) (ok : Sok K c S) (hp : c.H p = none) :
    Step c ⟨c.F, c.ι, upd c.H p ob⟩ ∧ Sok K ⟨c.F, c.ι, upd c.H p ob⟩ S ∧ LAt ⟨c.F, c.ι, upd c.H p ob⟩ p ob := by
  have hF : c.F p = none := by
    cases q : c.F p with
    | none => rfl
    | some o => rw [ok.f p o q] at hp; cases hp
  have hι : p ∉ c.ι := fun hm => by
    obtain ⟨n, hn, e⟩ := List.mem_iff_getElem.mp hm
    have hn' : n < S.length := by rw [← ok.len]; exact hn
    obtain ⟨ws, h1, _⟩ := ok.s n p S[n] (by rw [List.getElem?_eq_getElem hn, e]) (List.getElem?_eq_getElem hn')
    rw [hp] at h1; cases h1
  have kp : ∀ a o, c.H a = some o → upd c.H p ob a = some o := fun a o e => by
    rw [upd_ne (ne_of_none e hp)]
    exact e
  refine ⟨⟨Same.refl _, fun _ _ h => .inl h, fun a o e _ _ => kp a o e, fun a n => ?_, List.prefix_rfl, fun _ h => .inl h⟩, ⟨fun a o e => kp a o (ok.f a o e), ok.nd, ok.len, ok.fi, fun n a es h1 h2 => ?_⟩, ⟨upd_same, hF, hι⟩⟩
  · cases q : c.H a with
    | none => exact absurd q n
    | some o =>
      show upd c.H p ob a ≠ none
      rw [kp a o q]
      exact fun z => by cases z
  · obtain ⟨ws, g1, g2, g3⟩ := ok.s n a es h1 h2
    exact ⟨ws, kp _ _ g1, g2, g3⟩

theorem LAt.stepO {c c' : Bas} {a : Addr} {o : HO} (h : LAt c a o) (s : Step c c') (ht : ∀ ps, o ≠ .tbl ps) : LAt c' a o := by
  obtain ⟨h1, h3, h4⟩ := h
  refine ⟨s.fr a _ h1 h4 ht, ?_, fun hm => ?_⟩
  · cases q : c'.F a with
    | none => rfl
    | some o =>
      rcases s.grow a o q with r | r
      · rw [h3] at r; cases r
      · rw [h1] at r; cases r
  · rcases s.new a hm with r | r
    · exact h4 r
    · rw [h1] at r; cases r
/-- a thing that was new becomes data, as o -/
theorem LAt.data {c c' : Bas} {S : Sto} {p : Addr} {o o' : HO} (h : LAt c' p o) (s : Step c c') (ok : Sok K c' S) (hp : c.H p = none) :
    Step c ⟨upd c'.F p o', c'.ι, upd c'.H p o'⟩ ∧ Sok K ⟨upd c'.F p o', c'.ι, upd c'.H p o'⟩ S ∧ Same c'.F (upd c'.F p o') := by
  obtain ⟨h1, h3, h4⟩ := h
  have sm : Same c'.F (upd c'.F p o') := fun b u q => by
    rw [upd_ne (ne_of_none q h3)]
    exact q
  have s2 := s.upd_new (o := o') hp
  have ok2 := ok.upd (o := o') h3 h4
  refine ⟨⟨s2.same.trans sm, fun b u q => ?_, s2.fr, s2.dom, s2.pre, s2.new⟩, ⟨fun b u q => ?_, ok2.nd, ok2.len, fun b hb => ?_, fun n b es g1 g2 => ?_⟩, sm⟩
  · have q' : upd c'.F p o' b = some u := q
    by_cases hb : b = p
    · subst hb; exact .inr hp
    · rw [upd_ne hb] at q'
      exact s.grow b u q'
  · have q' : upd c'.F p o' b = some u := q
    show upd c'.H p o' b = some u
    by_cases hb : b = p
    · subst hb
      rw [upd_same] at q' ⊢
      exact q'
    · rw [upd_ne hb] at q' ⊢
      exact ok.f b u q'
  · show upd c'.F p o' b = none
    rw [upd_ne (fun z => h4 (by rw [← z]; exact hb))]
    exact ok.fi b hb
  · obtain ⟨ws, k1, k2, k3⟩ := ok2.s n b es g1 g2
    exact ⟨ws, k1, k2, RpAll.mono sm List.prefix_rfl _ _ k3⟩
end
/-! keys -/
def keyOf : D → Option Key
  | .int i => some (.inl i)
  | .str x => some (.inr x)
  | _ => none
def keysOf : List D → Option (List Key)
  | [] => some []
  | d :: ds => (keyOf d).bind fun k => (keysOf ds).bind fun ks => some (k :: ks)
theorem keyOf_ok {K : PySem.W.Frag} {F : Hp} {ι : List Addr} {d : D} {v : V} {k : Key} (r : Rp K F ι d v) (h : keyOf d = some k) : v = kV k ∧ d = keyD k := by
  cases d with
  | int i => cases h; exact ⟨r, rfl⟩
  | str i => cases h; exact ⟨r, rfl⟩
  | non => cases h
  | bl b => cases h
  | lst b => cases h
  | tup b => cases h
  | mu b => cases h
  | ty b => cases h
  | dct a b => cases h
theorem keysOf_ok {K : PySem.W.Frag} {F : Hp} {ι : List Addr} : ∀ {ds : List D} {vs : List V} {ks : List Key}, RpAll K F ι ds vs → keysOf ds = some ks → vs = ks.map kV ∧ ds = ks.map keyD
  | [], _, _, r, h => by cases h; exact ⟨r, rfl⟩
  | d :: ds, _, ks, ⟨v, w, e, h1, h2⟩, h => by
    obtain ⟨k, e1, h⟩ := Option.bind_eq_some_iff.mp h
    obtain ⟨ks', e2, h⟩ := Option.bind_eq_some_iff.mp h
    cases h
    obtain ⟨a1, a2⟩ := keyOf_ok h1 e1
    obtain ⟨b1, b2⟩ := keysOf_ok h2 e2
    subst e
    rw [a1, a2, b1, b2]
    exact ⟨rfl, rfl⟩
section
variable {X : Cx} {K : PySem.W.Frag} {B : Bas} {es : List Expr} {v : Expr} {l : EL} {f : EE} {pos p2 : Pos} {x1 : Nat}
def eDct0 : EE := fun _ S => .ok (.dct [] []) S
theorem d_dct0 : PE X (.Dict [] [] pos) (tD K B eDct0) := pe_dnewK.imp fun σ H Q ⟨F, ι, S, env, st, d, S', e, q⟩ => by
  cases e
  intro p hp
  obtain ⟨s1, o1, _⟩ := new_obj (c := ⟨F, ι, H⟩) (.dK []) st.ok hp
  exact q _ ⟨_, _, _⟩ s1 o1 ⟨p, [], rfl, .inl ⟨[], upd_same, rfl, rfl⟩, rfl⟩
def eDct1T (l : EL) (f : EE) : EE := fun env S => (l env S).bind fun ks S => (f env S).bind fun d S => match keysOf ks with
  | some _ => if ks.length ≤ 1000 then .ok (.dct [.tup ks] [d]) S else .stuck
  | none => .stuck
theorem d_dct1T (hu : X.A.units + 64 < cLine) (ha : PA X es (tA K B l)) (hv : PE X v (tD K B f)) : PE X (.Dict [some (.Tuple es x1 p2)] [v] pos) (tD K B (eDct1T l f)) := (pe_disp1T (by omega) (pe_tup ha) hv).imp fun σ H Q ⟨F, ι, S, env, st, d, S', e, q⟩ => by
  obtain ⟨ks, S1, e1, e⟩ := Res.bind_ok e
  obtain ⟨dv, S2, e2, e⟩ := Res.bind_ok e
  split at e
  · rename_i kk hk
    split at e
    · rename_i hz
      cases e
      intro p hp
      obtain ⟨s0, o0, la⟩ := new_hid (c := ⟨F, ι, H⟩) (.dT []) st.ok hp
      refine ⟨F, ι, S, env, st.step s0 o0, ks, S1, e1, fun vs c1 s1 o1 r1 => ?_⟩
      have hl : vs.length ≤ sizeLine := by rw [r1.len]; exact sz1000 hz
      refine ⟨hl, fun b hb => ?_⟩
      obtain ⟨s2, o2, sm2⟩ := new_obj (c := c1) (.tup vs) o1 hb
      refine ⟨upd c1.F b (.tup vs), c1.ι, S1, env, st.step ((s0.trans s1).trans s2) o2, dv, _, e2, fun y c3 s3 o3 r3 => ?_⟩
      have la3 : LAt c3 p (.dT []) := LAt.stepO la ((s1.trans s2).trans s3) (fun ps z => by cases z)
      obtain ⟨ek, ed⟩ := keysOf_ok r1 hk
      have hbF : c3.F b = some (.tup vs) := s3.same b _ (show upd c1.F b (.tup vs) b = some (.tup vs) from upd_same)
      refine ⟨b, kk, rfl, la3.1, by rw [← ek]; exact o3.f b _ hbF, ?_⟩
      obtain ⟨s4, o4, sm4⟩ := LAt.data (c := ⟨F, ι, H⟩) (o' := .dT [(kk, y)]) la3 ((s0.trans s1).trans (s2.trans s3)) o3 hp
      refine q _ ⟨_, _, _⟩ s4 o4 ⟨p, [y], rfl, .inr ⟨[(kk, y)], upd_same, ?_, rfl⟩, ⟨y, [], rfl, Rp.mono sm4 List.prefix_rfl _ _ r3, rfl⟩⟩
      rw [ed]
      rfl
    · cases e
  · cases e
end
end DL

/-! DL21: {k: v, ..} with keys ints and texts, as data. -/
namespace DL
open PySem PySem.Spec PyProof.Rows L2
theorem mergeK_nodup : ∀ (more acc : List (Key × V)), ((acc ++ more).map Prod.fst).Nodup → mergeK acc more = acc ++ more
  | [], acc, _ => by rw [List.append_nil]; rfl
  | p :: r, acc, h => by
    have hp : putK acc p.1 p.2 = acc ++ [p] := by
      unfold putK
      rw [if_neg]
      intro ha
      rw [List.any_eq_true] at ha
      obtain ⟨q, hq, e⟩ := ha
      have e' : q.1 = p.1 := by simpa using e
      rw [List.map_append, List.nodup_append] at h
      exact h.2.2 q.1 (List.mem_map_of_mem hq) p.1 (by simp) e'
    show mergeK (putK acc p.1 p.2) r = _
    rw [hp, mergeK_nodup r (acc ++ [p]) (by simpa using h)]
    simp
def evP : List (EE × EE) → Env → Sto → Res (List (D × D))
  | [], _, S => .ok [] S
  | p :: r, env, S => (p.1 env S).bind fun k S => (p.2 env S).bind fun v S => (evP r env S).bind fun ps S => .ok ((k, v) :: ps) S
def PRel (K : PySem.W.Frag) (c : Bas) : List (D × D) → List (V × V) → Prop
  | [], vs => vs = []
  | p :: ps, vs => ∃ x y r, vs = (x, y) :: r ∧ Rp K c.F c.ι p.1 x ∧ Rp K c.F c.ι p.2 y ∧ PRel K c ps r
theorem PRel.keys {K : PySem.W.Frag} {c : Bas} : ∀ {ps : List (D × D)} {vs : List (V × V)}, PRel K c ps vs → RpAll K c.F c.ι (ps.map Prod.fst) (vs.map Prod.fst)
  | [], _, h => by cases (show _ = [] from h); exact rfl
  | p :: ps, _, ⟨x, y, r, e, h1, h2, h3⟩ => by subst e; exact ⟨x, _, rfl, h1, PRel.keys h3⟩
theorem PRel.vals {K : PySem.W.Frag} {c : Bas} : ∀ {ps : List (D × D)} {vs : List (V × V)}, PRel K c ps vs → RpAll K c.F c.ι (ps.map Prod.snd) (vs.map Prod.snd)
  | [], _, h => by cases (show _ = [] from h); exact rfl
  | p :: ps, _, ⟨x, y, r, e, h1, h2, h3⟩ => by subst e; exact ⟨y, _, rfl, h2, PRel.vals h3⟩
theorem pairsD_of {K : PySem.W.Frag} {B : Bas} : ∀ (fs : List (EE × EE)) {σ : St} {H : Hp} {Q : List (V × V) → Hp → Prop},
    (∃ F ι S env, Stt K B ⟨F, ι, H⟩ S σ env ∧ ∃ ps S', evP fs env S = .ok ps S' ∧ ∀ vps c', Step ⟨F, ι, H⟩ c' → Sok K c' S' → PRel K c' ps vps → Q vps c'.H) →
    L2.tPairs (fs.map fun p => (tD K B p.1, tD K B p.2)) σ H Q
  | [], σ, H, Q, ⟨F, ι, S, env, st, ps, S', e, q⟩ => by
    cases e
    exact q [] _ (Step.refl _) st.ok rfl
  | p :: r, σ, H, Q, ⟨F, ι, S, env, st, ps, S', e, q⟩ => by
    obtain ⟨k, S1, e1, e⟩ := Res.bind_ok e
    obtain ⟨v, S2, e2, e⟩ := Res.bind_ok e
    obtain ⟨zs, S3, e3, e⟩ := Res.bind_ok e
    cases e
    refine ⟨F, ι, S, env, st, k, S1, e1, fun x c1 s1 o1 r1 => ?_⟩
    refine ⟨c1.F, c1.ι, S1, env, st.step s1 o1, v, S2, e2, fun y c2 s2 o2 r2 => ?_⟩
    refine pairsD_of r ⟨c2.F, c2.ι, S2, env, st.step (s1.trans s2) o2, zs, _, e3, fun vps c3 s3 o3 r3 => ?_⟩
    exact q _ c3 ((s1.trans s2).trans s3) o3 ⟨x, y, vps, rfl, s3.rp (s2.rp r1), s3.rp r2, r3⟩
def eDctK (fs : List (EE × EE)) : EE := fun env S => (evP fs env S).bind fun ps S => match keysOf (ps.map Prod.fst) with
  | some ks => if ks.Nodup ∧ ps.length ≤ 15 then .ok (.dct (ps.map Prod.fst) (ps.map Prod.snd)) S else .stuck
  | none => .stuck
theorem zipKV : ∀ {ps : List (V × V)} {ks : List Key}, ps.map Prod.fst = ks.map kV → ∃ kvs : List (Key × V), ps = kvs.map (fun kv => (kV kv.1, kv.2)) ∧ kvs.map Prod.fst = ks ∧ kvs.map Prod.snd = ps.map Prod.snd
  | [], [], _ => ⟨[], rfl, rfl, rfl⟩
  | [], _ :: _, h => by cases h
  | _ :: _, [], h => by cases h
  | p :: ps, k :: ks, h => by
    rw [List.map_cons, List.map_cons, List.cons.injEq] at h
    obtain ⟨kvs, e1, e2, e3⟩ := zipKV h.2
    refine ⟨(k, p.2) :: kvs, ?_, by rw [List.map_cons, e2], by rw [List.map_cons, List.map_cons, e3]⟩
    rw [List.map_cons, ← e1, ← h.1]
section
variable {X : Cx} {K : PySem.W.Frag} {B : Bas} {keys : List (Option Expr)} {values : List Expr} {fs : List (EE × EE)} {pos : Pos}
theorem d_dctK (h : PPs X pos keys values (fs.map fun p => (tD K B p.1, tD K B p.2))) (hall : keys.all (·.isSome) = true := by rfl) (hl : keys.length = values.length := by rfl) (h0 : keys ≠ [] := by exact fun z => by cases z)
    (h15 : keys.length ≤ 15 := by decide) : PE X (.Dict keys values pos) (tD K B (eDctK fs)) := (pe_disp h hall hl h0 h15).imp fun σ H Q ⟨F, ι, S, env, st, d, S', e, q⟩ => by
  obtain ⟨ps, S1, e1, e⟩ := Res.bind_ok e
  split at e
  · rename_i ks hk
    split at e
    · rename_i hz
      cases e
      intro p hp
      obtain ⟨s0, o0, la⟩ := new_hid (c := ⟨F, ι, H⟩) (.dK []) st.ok hp
      refine pairsD_of fs ⟨F, ι, S, env, st.step s0 o0, ps, _, e1, fun vps c1 s1 o1 r1 => ?_⟩
      have la1 : LAt c1 p (.dK []) := LAt.stepO la s1 (fun ps z => by cases z)
      obtain ⟨ek, ed⟩ := keysOf_ok r1.keys hk
      obtain ⟨kvs, g1, g2, g3⟩ := zipKV ek
      have hn : ((([] : List (Key × V)) ++ kvs).map Prod.fst).Nodup := by rw [List.nil_append, g2]; exact hz.1
      have hlen : kvs.length ≤ 15 := by
        have a1 : kvs.length = ks.length := by rw [← g2, List.length_map]
        have a2 : (ps.map Prod.fst).length = ks.length := by rw [ed, List.length_map]
        rw [List.length_map] at a2
        omega
      refine ⟨la1.1, kvs, g1, hlen, ?_⟩
      rw [mergeK_nodup _ _ hn, List.nil_append]
      obtain ⟨s4, o4, sm4⟩ := LAt.data (c := ⟨F, ι, H⟩) (o' := .dK kvs) la1 (s0.trans s1) o1 hp
      refine q _ ⟨_, _, _⟩ s4 o4 ⟨p, kvs.map Prod.snd, rfl, .inl ⟨kvs, upd_same, ?_, rfl⟩, ?_⟩
      · rw [ed, ← g2, List.map_map]
        rfl
      · rw [g3]
        exact RpAll.mono sm4 List.prefix_rfl _ _ r1.vals
    · cases e
  · cases e
end
end DL

/-! DL22: what a def returns becomes data, and the store is cut to its first m things. -/
namespace DL
open PySem PySem.Spec PyProof.Rows L2
def resL (f : D → Option D) : List D → Option (List D)
  | [] => some []
  | d :: ds => (f d).bind fun x => (resL f ds).bind fun xs => some (x :: xs)
def res (S : Sto) (m : Nat) : Nat → D → Option D
  | 0, _ => none
  | k + 1, d => match d with
    | .mu n => if n < m then some (.mu n) else (S[n]?).bind fun ds => (resL (res S m k) ds).map .lst
    | .lst ds => (resL (res S m k) ds).map .lst
    | .tup ds => (resL (res S m k) ds).map .tup
    | .dct ks ds => (resL (res S m k) ds).map (.dct ks)
    | d => some d
section
variable {K : PySem.W.Frag} {F F' : Hp} {ι ι' : List Addr}
theorem resL_ok {f : D → Option D} (hf : ∀ d d' v, Rp K F ι d v → f d = some d' → Rp K F' ι' d' v) : ∀ {ds ds' : List D} {vs : List V}, RpAll K F ι ds vs → resL f ds = some ds' → RpAll K F' ι' ds' vs
  | [], _, _, h, e => by cases e; exact h
  | d :: ds, _, _, ⟨v, r, h1, h2, h3⟩, e => by
    obtain ⟨x, e1, e⟩ := Option.bind_eq_some_iff.mp e
    obtain ⟨xs, e2, e⟩ := Option.bind_eq_some_iff.mp e
    cases e
    exact ⟨v, r, h1, hf _ _ _ h2 e1, resL_ok hf h3 e2⟩
theorem res_ok {S : Sto} {m : Nat} (hF : Same F F') (hm : ∀ n a ds, m ≤ n → ι[n]? = some a → S[n]? = some ds → ∃ vs, F' a = some (.lst vs) ∧ vs.length ≤ sizeLine ∧ RpAll K F ι ds vs) :
    ∀ (k : Nat) (d d' : D) (v : V), Rp K F ι d v → res S m k d = some d' → Rp K F' (ι.take m) d' v
  | 0, _, _, _, _, e => by cases e
  | k + 1, d, d', v, h, e => by
    have ih := res_ok hF hm k
    cases d with
    | mu n =>
      have e' : (if n < m then some (.mu n) else (S[n]?).bind fun ds => (resL (res S m k) ds).map .lst) = some d' := e
      obtain ⟨a, h1, h2⟩ := h
      split at e'
      · rename_i hn
        cases e'
        exact ⟨a, h1, by rw [List.getElem?_take_of_lt hn]; exact h2⟩
      · rename_i hn
        obtain ⟨ds, e1, e2⟩ := Option.bind_eq_some_iff.mp e'
        obtain ⟨xs, e3, e4⟩ := Option.map_eq_some_iff.mp e2
        subst e4
        obtain ⟨vs, g1, g2, g3⟩ := hm n a ds (by omega) h2 e1
        exact ⟨a, vs, h1, SqL.of g1, g2, resL_ok ih g3 e3⟩
    | lst ds =>
      obtain ⟨xs, e3, e4⟩ := Option.map_eq_some_iff.mp e
      subst e4
      obtain ⟨a, vs, h1, h2, hl, h3⟩ := h
      exact ⟨a, vs, h1, hF.seq h2, hl, resL_ok ih h3 e3⟩
    | tup ds =>
      obtain ⟨xs, e3, e4⟩ := Option.map_eq_some_iff.mp e
      subst e4
      obtain ⟨a, vs, h1, h2, hl, h3⟩ := h
      exact ⟨a, vs, h1, same_t hF h2, hl, resL_ok ih h3 e3⟩
    | dct ks ds =>
      obtain ⟨xs, e3, e4⟩ := Option.map_eq_some_iff.mp e
      subst e4
      obtain ⟨a, vs, h1, h2, h3⟩ := h
      exact ⟨a, vs, h1, same_d hF h2, resL_ok ih h3 e3⟩
    | non => cases e; exact h
    | bl b => cases e; exact h
    | int b => cases e; exact h
    | str b => cases e; exact h
    | ty b => cases e; exact h
end
/-! ### the cut -/
open Classical in
noncomputable def cutF (c : Bas) (m : Nat) : Hp := fun a => if (∃ n, m ≤ n ∧ c.ι[n]? = some a) then c.H a else c.F a
def resLL (f : List D → Option (List D)) : List (List D) → Option (List (List D))
  | [] => some []
  | d :: ds => (f d).bind fun x => (resLL f ds).bind fun xs => some (x :: xs)
theorem resLL_get {f : List D → Option (List D)} : ∀ {xs ys : List (List D)}, resLL f xs = some ys → ys.length = xs.length ∧ ∀ (n : Nat) (y : List D), ys[n]? = some y → ∃ x, xs[n]? = some x ∧ f x = some y
  | [], _, e => by cases e; exact ⟨rfl, fun n y h => by simp at h⟩
  | x :: xs, _, e => by
    obtain ⟨y, e1, e⟩ := Option.bind_eq_some_iff.mp e
    obtain ⟨ys, e2, e⟩ := Option.bind_eq_some_iff.mp e
    cases e
    obtain ⟨h1, h2⟩ := resLL_get e2
    refine ⟨by rw [List.length_cons, List.length_cons, h1], fun n z hz => ?_⟩
    cases n with
    | zero => cases hz; exact ⟨x, rfl, e1⟩
    | succ n => exact h2 n z hz
theorem cut_same {K : PySem.W.Frag} {c : Bas} {S : Sto} (ok : Sok K c S) (m : Nat) : Same c.F (cutF c m) := fun a o h => by
  unfold cutF
  rw [if_neg]
  · exact h
  · rintro ⟨n, _, hn⟩
    rw [ok.fi a (List.mem_of_getElem? hn)] at h
    cases h
theorem cut_at {K : PySem.W.Frag} {c : Bas} {S : Sto} (ok : Sok K c S) (m : Nat) : ∀ n a ds, m ≤ n → c.ι[n]? = some a → S[n]? = some ds → ∃ vs, cutF c m a = some (.lst vs) ∧ vs.length ≤ sizeLine ∧ RpAll K c.F c.ι ds vs := fun n a ds hm h1 h2 => by
  obtain ⟨vs, g1, g2, g3⟩ := ok.s n a ds h1 h2
  refine ⟨vs, ?_, g2, g3⟩
  unfold cutF
  rw [if_pos ⟨n, hm, h1⟩]
  exact g1
/-- the state when a def has cut what it made -/
theorem stoCut_ok {K : PySem.W.Frag} {B c : Bas} {S S' : Sto} {m k : Nat} (ok : Sok K c S) (st : Step B c) (hB : B.ι.length = m) (hS : resLL (resL (res S m k)) (S.take m) = some S') :
    Step B ⟨cutF c m, c.ι.take m, c.H⟩ ∧ Sok K ⟨cutF c m, c.ι.take m, c.H⟩ S' ∧ ∀ d d' v, Rp K c.F c.ι d v → res S m k d = some d' → Rp K (cutF c m) (c.ι.take m) d' v := by
  have hB2 : c.ι.take m = B.ι := by
    obtain ⟨t, e⟩ := st.pre
    rw [← e, ← hB, List.take_left]
  have hr := res_ok (K := K) (F := c.F) (F' := cutF c m) (ι := c.ι) (S := S) (m := m) (cut_same ok m) (cut_at ok m) k
  obtain ⟨hl, hg⟩ := resLL_get hS
  have old : ∀ n a, m ≤ n → c.ι[n]? = some a → a ∉ c.ι.take m := fun n a hn h hm => by
    obtain ⟨i, hi, e⟩ := List.mem_iff_getElem.mp hm
    have hi' : i < m := by rw [List.length_take] at hi; omega
    rw [List.getElem_take] at e
    obtain ⟨h1, h2⟩ := List.getElem?_eq_some_iff.mp h
    have := (List.getElem_inj ok.nd).mp (e.trans h2.symm)
    omega
  refine ⟨⟨st.same.trans (cut_same ok m), fun a o h => ?_, st.fr, st.dom, ?_, fun a ha => ?_⟩, ⟨fun a o h => ?_, ?_, ?_, fun a ha => ?_, fun n a ds h1 h2 => ?_⟩, hr⟩
  · have h' : cutF c m a = some o := h
    unfold cutF at h'
    split at h'
    · rename_i hx
      obtain ⟨n, hn, e⟩ := hx
      rcases st.new a (List.mem_of_getElem? e) with r | r
      · rw [← hB2] at r
        exact absurd r (old n a hn e)
      · exact .inr r
    · exact st.grow a o h'
  · show B.ι <+: c.ι.take m
    rw [hB2]
    exact List.prefix_rfl
  · exact st.new a (List.mem_of_mem_take ha)
  · have h' : cutF c m a = some o := h
    unfold cutF at h'
    split at h'
    · exact h'
    · exact ok.f a o h'
  · exact ok.nd.sublist (List.take_sublist _ _)
  · show (c.ι.take m).length = S'.length
    rw [hl, List.length_take, List.length_take, ok.len]
  · show cutF c m a = none
    unfold cutF
    rw [if_neg]
    · exact ok.fi a (List.mem_of_mem_take ha)
    · rintro ⟨n, hn, e⟩
      exact old n a hn e ha
  · obtain ⟨ds0, e1, e2⟩ := hg n ds h2
    have hn : n < m := by
      have := (List.getElem?_eq_some_iff.mp h1).1
      have h3 : n < (c.ι.take m).length := this
      rw [List.length_take] at h3
      omega
    have h1' : c.ι[n]? = some a := by
      have h3 : (c.ι.take m)[n]? = some a := h1
      rw [List.getElem?_take_of_lt hn] at h3
      exact h3
    rw [List.getElem?_take_of_lt hn] at e1
    obtain ⟨vs, g1, g2, g3⟩ := ok.s n a ds0 h1' e1
    exact ⟨vs, g1, g2, resL_ok hr g3 e2⟩
end DL

/-! DL23: a return that cuts the store; a def that begins with m things. -/
namespace DL
open PySem PySem.Spec PyProof.Rows L2
def sRetF (m k : Nat) (f : EE) : SS := fun env S => (f env S).bind fun d S1 => match res S1 m k d, resLL (resL (res S1 m k)) (S1.take m) with
  | some d', some S' => .ok (.rt d') S'
  | _, _ => .stuck
section
variable {X : Cx} {K : PySem.W.Frag} {B : Bas} {e : Expr} {f : EE} {m k : Nat} {pos : Pos}
theorem s_retF (hB : B.ι.length = m) (h : PE X e (tD K B f)) : PS X (.Return (some e) pos) (tK K B (sRetF m k f)) := (ps_ret h).imp fun E σ H ⟨F, ι, S, env, st, o, S', e, q⟩ => by
  obtain ⟨d, S1, e1, e⟩ := Res.bind_ok e
  refine ⟨F, ι, S, env, st, d, S1, e1, fun v c1 s1 o1 r1 => ?_⟩
  split at e
  · rename_i d' S2 h1 h2
    cases e
    obtain ⟨g1, g2, g3⟩ := stoCut_ok o1 (st.st.trans s1) hB h2
    exact q v ⟨cutF c1 m, c1.ι.take m, c1.H⟩ g1 g2 (g3 d d' v r1 h1)
  · cases e
end
def runDm (m N : Nat) (b : SS) : List D → Sto → Res D := fun ds S => if S.length = m then runD N b ds S else .stuck
section
variable {P : Program} {w : World} {K : PySem.W.Frag} {mg : Str → Option Value} {base : Heap}
theorem fn_dataM {x qual : Str} {st : Stmt} {f : Addr} {fd : FuncData} {N ps : List Str} {k m : Nat} {b : SS} (F : Fun K x qual st f fd) (S : FnScope N ps (defScope st))
    (hb : ∀ (cdv : Value) (A : Around) (outer : List PySem.Env) (s : Shared) (H : Hp) (E : XK) (B : Bas), B.ι.length = m → Room k (A.deeper (envOfC qual (defScope st) s.heap.objs.size f cdv)) →
      PSs (cxOf CX0 P w K mg base N qual (defScope st) f cdv A outer s H E).nox (defBody st) (tK K B b)) : FnOk P w K mg base CX0 (k + 1) f fd ps (spD K ps.length (runDm m N.length b)) := by
  refine F.ok S (fun vs H Q E h => h.1) (fun cdv A outer s H vs Q E hr h => ?_)
  obtain ⟨hl, F0, ι, S0, ds, ok, r, d, S', e, q⟩ := h
  unfold runDm at e
  split at e
  · rename_i hm
    refine ⟨_, hb cdv A outer s H E ⟨F0, ι, H⟩ (ok.len.trans hm) hr, F0, ι, S0, _, start_ok ok r, ?_⟩
    unfold runD at e
    split at e
    · rename_i d' S'' e1
      cases e
      exact ⟨_, _, e1, fun v c' s o r => q v c' s o r⟩
    · rename_i env' S'' e1
      cases e
      exact ⟨_, _, e1, fun σ' c' st ad => q .non c' st.st st.ok rfl⟩
    · cases e
  · cases e
end
end DL

/-! DL13: evaluation of the shallow terms. -/
namespace DL
open PySem PySem.Spec PyProof.Rows L2
theorem Res.bind_eq {α β : Type} (a : α) (S : Sto) (f : α → Sto → Res β) : Res.bind (.ok a S) f = f a S := rfl
/-- it ends well, and then .. -/
def Ev {α : Type} (r : Res α) (Q : α → Sto → Prop) : Prop := ∃ a S', r = .ok a S' ∧ Q a S'
theorem Ev.bind {α β : Type} {r : Res α} {f : α → Sto → Res β} {Q : β → Sto → Prop} : Ev (r.bind f) Q = Ev r fun a S => Ev (f a S) Q := by
  cases r with
  | ok a S => exact propext ⟨fun h => ⟨a, S, rfl, h⟩, fun ⟨_, _, e, h⟩ => (by cases e; exact h)⟩
  | stuck => exact propext ⟨fun ⟨_, _, e, _⟩ => (by cases e), fun ⟨_, _, e, _⟩ => (by cases e)⟩
theorem Ev.imp {α : Type} {r : Res α} {Q Q' : α → Sto → Prop} (h : Ev r Q) (i : ∀ a S, Q a S → Q' a S) : Ev r Q' := by
  obtain ⟨a, S, e, q⟩ := h
  exact ⟨a, S, e, i a S q⟩
theorem Ev.of {α : Type} {r : Res α} {a : α} {S : Sto} {Q : α → Sto → Prop} (e : r = .ok a S) : Ev r Q = Q a S := by
  subst e
  exact propext ⟨fun ⟨_, _, e, h⟩ => (by cases e; exact h), fun h => ⟨_, _, rfl, h⟩⟩
theorem ev_no {α : Type} {Q : α → Sto → Prop} : Ev (.stuck : Res α) Q = False := propext ⟨fun ⟨_, _, e, _⟩ => (by cases e), False.elim⟩
theorem Ev.eq {α : Type} {r : Res α} {a : α} {S : Sto} (h : Ev r fun b S' => b = a ∧ S' = S) : r = .ok a S := by
  obtain ⟨b, S', e, rfl, rfl⟩ := h
  exact e
/-! the names' places, in such a form that simp meets them from without -/
def withSet (env : Env) (i : Nat) (x : Option Slot) (k : Env → Prop) : Prop := k (env.set i x)
def withOwn (env : Env) (i : Nat) (k : List D → Prop) : Prop := match env[i]? with | some (some (.own ds)) => k ds | _ => False
def withFrz (env : Env) (i : Nat) (k : Env → Prop) : Prop := match env[i]? with | some (some (.own ds)) => k (env.set i (some (.sh (.lst ds)))) | _ => k env
def withWipe (env : Env) (vs : List Nat) (k : Env → Prop) : Prop := k (wipeE env vs)
def withG (g : GE) (d : D) (env : Env) (k : Env → Prop) : Prop := match g d env with | some e => k e | none => False
@[simp ↓] theorem ws_0 {a x : Option Slot} {r : Env} {k : Env → Prop} : withSet (a :: r) 0 x k = k (x :: r) := rfl
@[simp ↓] theorem ws_s {a x : Option Slot} {r : Env} {i : Nat} {k : Env → Prop} : withSet (a :: r) (i + 1) x k = withSet r i x fun r => k (a :: r) := rfl
@[simp ↓] theorem wo_0 {ds : List D} {r : Env} {k : List D → Prop} : withOwn (some (.own ds) :: r) 0 k = k ds := rfl
@[simp ↓] theorem wo_s {a : Option Slot} {r : Env} {i : Nat} {k : List D → Prop} : withOwn (a :: r) (i + 1) k = withOwn r i k := rfl
@[simp ↓] theorem wf_0 {ds : List D} {r : Env} {k : Env → Prop} : withFrz (some (.own ds) :: r) 0 k = k (some (.sh (.lst ds)) :: r) := rfl
@[simp ↓] theorem wf_1 {d : D} {r : Env} {k : Env → Prop} : withFrz (some (.sh d) :: r) 0 k = k (some (.sh d) :: r) := rfl
@[simp ↓] theorem wf_2 {r : Env} {k : Env → Prop} : withFrz (none :: r) 0 k = k (none :: r) := rfl
@[simp ↓] theorem wf_s {a : Option Slot} {r : Env} {i : Nat} {k : Env → Prop} : withFrz (a :: r) (i + 1) k = withFrz r i fun r => k (a :: r) := by
  show (match r[i]? with | some (some (.own ds)) => k ((a :: r).set (i + 1) (some (.sh (.lst ds)))) | _ => k (a :: r)) = match r[i]? with | some (some (.own ds)) => k (a :: r.set i (some (.sh (.lst ds)))) | _ => k (a :: r)
  rfl
@[simp ↓] theorem ww_0 {env : Env} {k : Env → Prop} : withWipe env [] k = k env := rfl
@[simp ↓] theorem ww_s {env : Env} {i : Nat} {vs : List Nat} {k : Env → Prop} : withWipe env (i :: vs) k = withWipe env vs fun e => withSet e i none k := rfl
@[simp ↓] theorem wg_n {i : Nat} {d : D} {env : Env} {k : Env → Prop} : withG (gN i) d env k = withSet env i (some (.sh d)) k := rfl
@[simp ↓] theorem wg_2 {g h : GE} {a b : D} {env : Env} {k : Env → Prop} : withG (gTp 2 (gsCons g (gsCons h gsNil))) (.tup [a, b]) env k = withG g a env fun e => withG h b e k := by
  show (match (g a env).bind (fun e => (h b e).bind fun e => some e) with | some e => k e | none => False) = match g a env with | some e => (match h b e with | some e => k e | none => False) | none => False
  cases g a env with
  | none => rfl
  | some e =>
    show (match (h b e).bind fun e => some e with | some e => k e | none => False) = match h b e with | some e => k e | none => False
    generalize h b e = z
    cases z <;> rfl
@[simp ↓] theorem wg_2l {g h : GE} {a b : D} {env : Env} {k : Env → Prop} : withG (gTp 2 (gsCons g (gsCons h gsNil))) (.lst [a, b]) env k = withG g a env fun e => withG h b e k := wg_2
theorem withG.out {g : GE} {d : D} {env : Env} {k : Env → Prop} (h : withG g d env k) : ∃ e, g d env = some e ∧ k e := by
  unfold withG at h
  split at h
  · rename_i e he; exact ⟨e, he, h⟩
  · exact h.elim
section
variable {α β : Type} {env : Env} {S : Sto} {f g h : EE} {l l' : EL} {p q : ET} {s t : SS} {i j : Nat} {a b d : D} {ds es : List D} {op : OpA} {opn : OpN} {o o' : Op2} {k m : Int}
variable {Q : D → Sto → Prop} {QL : List D → Sto → Prop} {QT : Bool → Sto → Prop} {QS : Out → Sto → Prop}
@[simp ↓] theorem ev_ok {α : Type} {a : α} {S : Sto} {Q : α → Sto → Prop} : Ev (.ok a S) Q = Q a S := Ev.of rfl
@[simp ↓] theorem ev_ite {α : Type} {c : Prop} [Decidable c] {r r' : Res α} {Q : α → Sto → Prop} : Ev (if c then r else r') Q = if c then Ev r Q else Ev r' Q := by split <;> rfl
@[simp ↓] theorem ev_eC : Ev (eC d env S) Q = Q d S := Ev.of rfl
@[simp ↓] theorem ev_eV0 {r : Env} : Ev (eV 0 (some (.sh d) :: r) S) Q = Q d S := Ev.of rfl
@[simp ↓] theorem ev_eVs {x : Option Slot} {r : Env} : Ev (eV (i + 1) (x :: r) S) Q = Ev (eV i r S) Q := rfl
@[simp ↓] theorem ev_eVb0 {r : Env} : Ev (eVb 0 (some (.sh d) :: r) S) Q = Q d S := Ev.of rfl
@[simp ↓] theorem ev_eVbo {r : Env} : Ev (eVb 0 (some (.own ds) :: r) S) Q = Q (.lst ds) S := Ev.of rfl
@[simp ↓] theorem ev_eVbs {x : Option Slot} {r : Env} : Ev (eVb (i + 1) (x :: r) S) Q = Ev (eVb i r S) Q := rfl
@[simp ↓] theorem ev_eBin : Ev (eBin o f g env S) Q = Ev (f env S) fun x S => Ev (g env S) fun y S => Ev (o x y S) Q := by
  show Ev (Res.bind _ _) Q = _
  simp only [Ev.bind]
@[simp ↓] theorem ev_oAdd : Ev (oAdd (.int k) (.int m) S) Q = Q (.int (k + m)) S := Ev.of rfl
@[simp ↓] theorem ev_oSub : Ev (oSub (.int k) (.int m) S) Q = Q (.int (k - m)) S := Ev.of rfl
theorem ev_oMul (h : (-(2 ^ 64) < k ∧ k < 2 ^ 64) ∨ (-(2 ^ 64) < m ∧ m < 2 ^ 64)) : Ev (oMul (.int k) (.int m) S) Q = Q (.int (k * m)) S := Ev.of (by
  show (match (if _ then some (D.int (k * m)) else none) with | some d => Res.ok d S | none => .stuck) = _
  rw [if_pos h])
theorem ev_oMod (h : 0 < m) : Ev (oMod (.int k) (.int m) S) Q = Q (.int (k % m)) S := Ev.of (by
  show (match (if _ then some (D.int (k % m)) else none) with | some d => Res.ok d S | none => .stuck) = _
  rw [if_pos h])
theorem ev_oFdiv (h : 0 < m ∧ m < 1073741824) : Ev (oFdiv (.int k) (.int m) S) Q = Q (.int (k / m)) S := Ev.of (by
  show (match (if _ then some (D.int (k / m)) else none) with | some d => Res.ok d S | none => .stuck) = _
  rw [if_pos h])
theorem ev_oPow (h : 0 ≤ m ∧ m ≤ 1000000 ∧ k.natAbs < 2 ^ 64) : Ev (oPow (.int k) (.int m) S) Q = Q (.int (k ^ m.toNat)) S := Ev.of (by
  show (match (if _ then some (D.int (k ^ m.toNat)) else none) with | some d => Res.ok d S | none => .stuck) = _
  rw [if_pos h])
@[simp ↓] theorem ev_pow1018 : Ev (oPow (.int 10) (.int 18) S) Q = Q (.int 1000000000000000000) S := ev_oPow (by decide)
@[simp ↓] theorem ev_oLt : Ev (oLt (.int k) (.int m) S) Q = Q (.bl (decide (k < m))) S := Ev.of rfl
@[simp ↓] theorem ev_oLe : Ev (oLe (.int k) (.int m) S) Q = Q (.bl (decide (k ≤ m))) S := Ev.of rfl
@[simp ↓] theorem ev_oGt : Ev (oGt (.int k) (.int m) S) Q = Q (.bl (decide (m < k))) S := Ev.of rfl
@[simp ↓] theorem ev_oGe : Ev (oGe (.int k) (.int m) S) Q = Q (.bl (decide (m ≤ k))) S := Ev.of rfl
theorem ev_oEq (h : okD a = true) (h' : okD b = true) : Ev (oEq a b S) Q = Q (.bl (eqD a b)) S := Ev.of (by unfold oEq; rw [if_pos ⟨h, h'⟩])
theorem ev_oNe (h : okD a = true) (h' : okD b = true) : Ev (oNe a b S) Q = Q (.bl (!eqD a b)) S := Ev.of (by unfold oNe; rw [if_pos ⟨h, h'⟩])
@[simp ↓] theorem ev_oIs : Ev (oIs a .non S) Q = Q (.bl (isNon a)) S := Ev.of rfl
@[simp ↓] theorem ev_oIsNot : Ev (oIsNot a .non S) Q = Q (.bl (!isNon a)) S := Ev.of rfl
@[simp] theorem ev_isNon : isNon .non = true := rfl
@[simp] theorem ev_isNonI : isNon (.int k) = false := rfl
theorem ev_ixL {d : D} (h : atI ds k = some d) : Ev (oIx (.lst ds) (.int k) S) Q = Q d S := Ev.of (by
  show (match atI ds k with | some d => Res.ok d S | none => .stuck) = _
  rw [h])
theorem ev_ixT {d : D} (h : atI ds k = some d) : Ev (oIx (.tup ds) (.int k) S) Q = Q d S := Ev.of (by
  show (match atI ds k with | some d => Res.ok d S | none => .stuck) = _
  rw [h])
@[simp ↓] theorem mu3_0 {c : D} : Ev (oIx (.mu 0) (.int 0) [[a, b, c]]) Q = Q a [[a, b, c]] := Ev.of rfl
@[simp ↓] theorem mu3_1 {c : D} : Ev (oIx (.mu 0) (.int 1) [[a, b, c]]) Q = Q b [[a, b, c]] := Ev.of rfl
@[simp ↓] theorem mu3_2 {c : D} : Ev (oIx (.mu 0) (.int 2) [[a, b, c]]) Q = Q c [[a, b, c]] := Ev.of rfl
@[simp ↓] theorem ev_pair0 : Ev (oIx (.tup [a, b]) (.int 0) S) Q = Q a S := Ev.of rfl
@[simp ↓] theorem ev_pair1 : Ev (oIx (.tup [a, b]) (.int 1) S) Q = Q b S := Ev.of rfl
@[simp ↓] theorem ev_eNegI : Ev (eNeg (eC (.int k)) env S) Q = Q (.int (-k)) S := Ev.of rfl
@[simp ↓] theorem ev_eTst : Ev (eTst f env S) QT = Ev (f env S) fun x S => match x with | .bl b => QT b S | _ => False := by
  show Ev (Res.bind _ _) QT = _
  rw [Ev.bind]
  congr 1
  funext x S
  cases x <;> first | exact Ev.of rfl | exact ev_no
def withTru (S : Sto) (d : D) (k : Bool → Prop) : Prop := match truD S d with | some b => k b | none => False
@[simp ↓] theorem wt_b {b : Bool} {k : Bool → Prop} : withTru S (.bl b) k = k b := rfl
@[simp ↓] theorem wt_i {n : Int} {k : Bool → Prop} : withTru S (.int n) k = k (n != 0) := rfl
@[simp ↓] theorem wt_l {k : Bool → Prop} : withTru S (.lst ds) k = k (!ds.isEmpty) := rfl
@[simp ↓] theorem wt_t {k : Bool → Prop} : withTru S (.tup ds) k = k (!ds.isEmpty) := rfl
@[simp ↓] theorem wt_n {k : Bool → Prop} : withTru S .non k = k false := rfl
@[simp ↓] theorem ev_eTru : Ev (eTru f env S) QT = Ev (f env S) fun x S => withTru S x fun b => QT b S := by
  show Ev (Res.bind _ _) QT = _
  rw [Ev.bind]
  congr 1
  funext x S
  have key : ∀ z : Option Bool, Ev (match z with | some b => .ok b S | none => .stuck : Res Bool) QT = match z with | some b => QT b S | none => False := fun z => by
    cases z with
    | none => exact ev_no
    | some b => exact Ev.of rfl
  exact key (truD S x)
@[simp ↓] theorem ev_eAndT : Ev (eAndT p q env S) QT = Ev (p env S) fun b S => if b = true then Ev (q env S) QT else QT false S := by
  show Ev (Res.bind _ _) QT = _
  simp only [Ev.bind, ev_ite, ev_ok]
@[simp ↓] theorem ev_eOrT : Ev (eOrT p q env S) QT = Ev (p env S) fun b S => if b = true then QT true S else Ev (q env S) QT := by
  show Ev (Res.bind _ _) QT = _
  simp only [Ev.bind, ev_ite, ev_ok]
@[simp ↓] theorem ev_eNotT : Ev (eNotT p env S) QT = Ev (p env S) fun b S => QT (!b) S := by
  show Ev (Res.bind _ _) QT = _
  simp only [Ev.bind, ev_ok]
theorem ev_bl {α : Type} {x : D} {r : Bool → Res α} {Q : α → Sto → Prop} : Ev (match x with | .bl b => r b | _ => .stuck) Q = match x with | .bl b => Ev (r b) Q | _ => False := by
  cases x <;> first | rfl | exact ev_no
@[simp ↓] theorem ev_eAnd : Ev (eAnd f g env S) Q = Ev (f env S) fun x S => match x with | .bl b => if b = true then Ev (g env S) Q else Q (.bl false) S | _ => False := by
  show Ev (Res.bind _ _) Q = _
  rw [Ev.bind]
  congr 1
  funext x S
  cases x with
  | bl b => cases b <;> first | rfl | exact Ev.of rfl
  | _ => exact ev_no
@[simp ↓] theorem ev_eOr : Ev (eOr f g env S) Q = Ev (f env S) fun x S => match x with | .bl b => if b = true then Q (.bl true) S else Ev (g env S) Q | _ => False := by
  show Ev (Res.bind _ _) Q = _
  rw [Ev.bind]
  congr 1
  funext x S
  cases x with
  | bl b => cases b <;> first | rfl | exact Ev.of rfl
  | _ => exact ev_no
@[simp ↓] theorem ev_eNot : Ev (eNot f env S) Q = Ev (f env S) fun x S => match x with | .bl b => Q (.bl (!b)) S | _ => False := by
  show Ev (Res.bind _ _) Q = _
  rw [Ev.bind]
  congr 1
  funext x S
  cases x <;> first | exact Ev.of rfl | exact ev_no
@[simp ↓] theorem ev_eIf : Ev (eIf p f g env S) Q = Ev (p env S) fun b S => if b = true then Ev (f env S) Q else Ev (g env S) Q := by
  show Ev (Res.bind _ _) Q = _
  simp only [Ev.bind, ev_ite]
@[simp ↓] theorem ev_eChain : Ev (eChain o o' f g h env S) Q = Ev (f env S) fun x S => Ev (g env S) fun y S => Ev (o x y S) fun k S => match k with | .bl b => if b = true then Ev (h env S) fun z S => Ev (o' y z S) Q else Q (.bl false) S | _ => False := by
  show Ev (Res.bind _ _) Q = _
  simp only [Ev.bind]
  congr 1
  funext x S
  congr 1
  funext y S
  congr 1
  funext k S
  cases k with
  | bl b => cases b <;> first | exact Ev.bind | exact Ev.of rfl
  | _ => exact ev_no
@[simp ↓] theorem ev_eNil : Ev (eNil env S) QL = QL [] S := Ev.of rfl
@[simp ↓] theorem ev_eCons : Ev (eCons f l env S) QL = Ev (f env S) fun x S => Ev (l env S) fun xs S => QL (x :: xs) S := by
  show Ev (Res.bind _ _) QL = _
  simp only [Ev.bind, ev_ok]
theorem ev_if1000 {α : Type} {n : Nat} {r : Res α} {Q : α → Sto → Prop} : Ev (if n ≤ 1000 then r else .stuck) Q = (n ≤ 1000 ∧ Ev r Q) := by
  split
  · rename_i h; exact propext ⟨fun q => ⟨h, q⟩, fun q => q.2⟩
  · rename_i h; exact propext ⟨fun ⟨_, _, e, _⟩ => (by cases e), fun q => absurd q.1 h⟩
theorem ev_stk {α : Type} {c : Prop} [Decidable c] {r : Res α} {Q : α → Sto → Prop} : Ev (if c then r else .stuck) Q = (c ∧ Ev r Q) := by
  split
  · rename_i h; exact propext ⟨fun q => ⟨h, q⟩, fun q => q.2⟩
  · rename_i h; exact propext ⟨fun ⟨_, _, e, _⟩ => (by cases e), fun q => absurd q.1 h⟩
@[simp ↓] theorem ev_eTup : Ev (eTup l env S) Q = Ev (l env S) fun xs S => xs.length ≤ 1000 ∧ Q (.tup xs) S := by
  show Ev (Res.bind _ _) Q = _
  simp only [Ev.bind, ev_stk, ev_ok]
@[simp ↓] theorem ev_eDsp : Ev (eDsp l env S) QL = Ev (l env S) fun xs S => xs.length ≤ 1000 ∧ QL xs S := by
  show Ev (Res.bind _ _) QL = _
  simp only [Ev.bind, ev_stk, ev_ok]
@[simp ↓] theorem ev_eLst : Ev (eLst l env S) Q = Ev (l env S) fun ds S => Q (.lst ds) S := by
  show Ev (Res.bind _ _) Q = _
  simp only [Ev.bind, ev_ok]
@[simp ↓] theorem ev_eMu : Ev (eMu l env S) Q = Ev (l env S) fun ds S => Q (.mu S.length) (S ++ [ds]) := by
  show Ev (Res.bind _ _) Q = _
  simp only [Ev.bind, ev_ok]
@[simp ↓] theorem ev_eBlt : Ev (eBlt op l env S) Q = Ev (l env S) fun ds S => Ev (op ds S) Q := Ev.bind
@[simp ↓] theorem ev_eBltN : Ev (eBltN opn l env S) QL = Ev (l env S) fun ds S => Ev (opn ds S) QL := Ev.bind
@[simp ↓] theorem ev_eCall {φ : List D → Sto → Res D} : Ev (eCall φ l env S) Q = Ev (l env S) fun ds S => Ev (φ ds S) Q := Ev.bind
@[simp ↓] theorem ev_lenL : Ev (bLen [.lst ds] S) Q = Q (.int ds.length) S := Ev.of rfl
@[simp ↓ high] theorem ev_lenLM {γ : Type} {e : γ → D} {xs : List γ} : Ev (bLen [.lst (xs.map e)] S) Q = Q (.int xs.length) S := Ev.of (by show Res.ok (D.int (xs.map e).length) S = _; rw [List.length_map])
@[simp ↓ high] theorem ev_lenTM {γ : Type} {e : γ → D} {xs : List γ} : Ev (bLen [.tup (xs.map e)] S) Q = Q (.int xs.length) S := Ev.of (by show Res.ok (D.int (xs.map e).length) S = _; rw [List.length_map])
@[simp ↓] theorem ev_lenT : Ev (bLen [.tup ds] S) Q = Q (.int ds.length) S := Ev.of rfl
@[simp ↓] theorem ev_intI : Ev (bInt [.int k] S) Q = Q (.int k) S := Ev.of rfl
@[simp ↓] theorem ev_intB {b : Bool} : Ev (bInt [.bl b] S) Q = Q (.int (if b then 1 else 0)) S := Ev.of rfl
@[simp ↓] theorem ev_abs : Ev (bAbs [.int k] S) Q = Q (.int (if k < 0 then -k else k)) S := Ev.of rfl
@[simp ↓] theorem ev_max2 : Ev (bMax2 [.int k, .int m] S) Q = Q (.int (max k m)) S := Ev.of (by
  show Res.ok (D.int (if m > k then m else k)) S = _
  congr 2
  split <;> omega)
@[simp ↓] theorem ev_min2 : Ev (bMin2 [.int k, .int m] S) Q = Q (.int (min k m)) S := Ev.of (by
  show Res.ok (D.int (if m < k then m else k)) S = _
  congr 2
  split <;> omega)
@[simp ↓] theorem ev_tupL : Ev (bTuple [.lst ds] S) Q = Q (.tup ds) S := Ev.of rfl
@[simp ↓] theorem ev_tupT : Ev (bTuple [.tup ds] S) Q = Q (.tup ds) S := Ev.of rfl
@[simp ↓] theorem ev_listL : Ev (bList [.lst ds] S) QL = QL ds S := Ev.of rfl
@[simp ↓] theorem ev_listT : Ev (bList [.tup ds] S) QL = QL ds S := Ev.of rfl
theorem ev_any (bs : List Bool) : Ev (bAny [.lst (bs.map .bl)] S) Q = Q (.bl (bs.any id)) S := Ev.of (by
  show (match allBl (bs.map .bl) with | some bs => Res.ok (D.bl (bs.any id)) S | none => .stuck) = _
  rw [allBl_of])
theorem ev_all (bs : List Bool) : Ev (bAll [.lst (bs.map .bl)] S) Q = Q (.bl (bs.all id)) S := Ev.of (by
  show (match allBl (bs.map .bl) with | some bs => Res.ok (D.bl (bs.all id)) S | none => .stuck) = _
  rw [allBl_of])
theorem ev_maxL (n : Int) (ns : List Int) : Ev (bMax [.lst ((n :: ns).map .int)] S) Q = Q (.int (ns.foldl max n)) S := Ev.of (by
  show (match allInt ((n :: ns).map .int) with | some (n :: ns) => Res.ok (D.int (ns.foldl max n)) S | _ => .stuck) = _
  rw [allInt_of])
theorem ev_minL (n : Int) (ns : List Int) : Ev (bMin [.lst ((n :: ns).map .int)] S) Q = Q (.int (ns.foldl min n)) S := Ev.of (by
  show (match allInt ((n :: ns).map .int) with | some (n :: ns) => Res.ok (D.int (ns.foldl min n)) S | _ => .stuck) = _
  rw [allInt_of])
@[simp ↓] theorem ev_maxP : Ev (bMax [.tup [.int k, .int m]] S) Q = Q (.int (max k m)) S := Ev.of rfl
@[simp ↓] theorem ev_minP : Ev (bMin [.tup [.int k, .int m]] S) Q = Q (.int (min k m)) S := Ev.of rfl
theorem ev_opt {α β : Type} {x : Option β} {r : β → Res α} {Q : α → Sto → Prop} : Ev (match x with | some b => r b | none => .stuck) Q = match x with | some b => Ev (r b) Q | none => False := by
  cases x with
  | some b => rfl
  | none => exact ev_no
def withSeq (d : D) (k : List D → Prop) : Prop := match seqD d with | some ds => k ds | none => False
@[simp ↓] theorem wq_l {k : List D → Prop} : withSeq (.lst ds) k = k ds := rfl
@[simp ↓] theorem wq_t {k : List D → Prop} : withSeq (.tup ds) k = k ds := rfl
@[simp ↓] theorem ev_iD : Ev (iD f env S) QL = Ev (f env S) fun d S => withSeq d fun ds => QL ds S := by
  show Ev (Res.bind _ _) QL = _
  rw [Ev.bind]
  congr 1
  funext d S
  unfold withSeq
  generalize seqD d = x
  cases x <;> first | exact ev_no | exact Ev.of rfl
@[simp ↓] theorem ev_iRg1 : Ev (iRg1 f env S) QL = Ev (f env S) fun d S => match d with | .int j => (-1000000 ≤ j ∧ j ≤ 1000000) ∧ QL (rangeD 0 j.toNat) S | _ => False := by
  show Ev (Res.bind _ _) QL = _
  rw [Ev.bind]
  congr 1
  funext d S
  cases d with
  | int j => show Ev (if _ then _ else _) QL = _; rw [ev_stk, ev_ok]
  | _ => exact ev_no
@[simp ↓] theorem ev_iRg2 : Ev (iRg2 f g env S) QL = Ev (f env S) fun d S => Ev (g env S) fun e S => match d, e with
  | .int i, .int j => ((-1000000 ≤ i ∧ i ≤ 1000000) ∧ -1000000 ≤ j ∧ j ≤ 1000000) ∧ QL (rangeD i (j - i).toNat) S
  | _, _ => False := by
  show Ev (Res.bind _ _) QL = _
  simp only [Ev.bind]
  congr 1
  funext d S
  congr 1
  funext e S
  cases d with
  | int i => cases e with
    | int j => show Ev (if _ then _ else _) QL = _; rw [ev_stk, ev_ok]
    | _ => exact ev_no
  | _ => exact ev_no
@[simp ↓] theorem ev_iEn : Ev (iEn f env S) QL = Ev (f env S) fun d S => withSeq d fun ds => QL (enD ds) S := by
  show Ev (Res.bind _ _) QL = _
  rw [Ev.bind]
  congr 1
  funext d S
  unfold withSeq
  generalize seqD d = x
  cases x <;> first | exact ev_no | exact Ev.of rfl
def withTwo (d e : D) (k : List D → List D → Prop) : Prop := match two d e with | some p => k p.1 p.2 | none => False
@[simp ↓] theorem w2_l {k : List D → List D → Prop} : withTwo (.lst ds) (.lst es) k = k ds es := rfl
@[simp ↓] theorem w2_t {k : List D → List D → Prop} : withTwo (.tup ds) (.tup es) k = k ds es := rfl
@[simp ↓] theorem ev_iZi : Ev (iZi f g env S) QL = Ev (f env S) fun d S => Ev (g env S) fun e S => withTwo d e fun xs ys => QL (zipD xs ys) S := by
  show Ev (Res.bind _ _) QL = _
  simp only [Ev.bind]
  congr 1
  funext d S
  congr 1
  funext e S
  unfold withTwo
  generalize two d e = x
  cases x <;> first | exact ev_no | exact Ev.of rfl
@[simp ↓] theorem ev_eListEn : Ev (eListEn f env S) QL = Ev (f env S) fun d S => match d with | .lst ds => QL (enD ds) S | _ => False := by
  show Ev (Res.bind _ _) QL = _
  rw [Ev.bind]
  congr 1
  funext d S
  cases d <;> first | exact Ev.of rfl | exact ev_no
@[simp ↓] theorem ev_eListZi : Ev (eListZi f g env S) QL = Ev (f env S) fun d S => Ev (g env S) fun e S => match d, e with | .lst xs, .lst ys => QL (zipD xs ys) S | _, _ => False := by
  show Ev (Res.bind _ _) QL = _
  simp only [Ev.bind]
  congr 1
  funext d S
  congr 1
  funext e S
  cases d <;> cases e <;> first | exact Ev.of rfl | exact ev_no
@[simp ↓] theorem ev_eComp {it : EL} {g : GE} {vs : List Nat} : Ev (eComp it g p f vs env S) QL = Ev (it env S) fun ds S => withWipe env vs fun env => Ev (compGo g p f env ds S) QL := Ev.bind
@[simp ↓] theorem ev_eComp2 {it it1 : EL} {g g1 : GE} {p1 : ET} {vs vs1 : List Nat} : Ev (eComp2 it g p it1 g1 p1 f vs vs1 env S) QL = Ev (it env S) fun ds S => withWipe env vs fun env => Ev (compGo2 g p it1 g1 p1 f vs1 env ds S) fun ys S => ys.length ≤ 1000000 ∧ QL ys S := by
  show Ev (Res.bind _ _) QL = _
  simp only [Ev.bind, ev_stk, ev_ok]
  rfl
@[simp ↓] theorem ev_eYes : Ev (eYes env S) QT = QT true S := Ev.of rfl
@[simp ↓] theorem ev_eCatN : Ev (eCatN l l' env S) QL = Ev (l env S) fun xs S => Ev (l' env S) fun ys S => xs.length + ys.length ≤ 1000000 ∧ QL (xs ++ ys) S := by
  show Ev (Res.bind _ _) QL = _
  simp only [Ev.bind, ev_stk, ev_ok]
@[simp ↓] theorem ev_eSl {u v : Option Int} : Ev (eSl f (fun _ S => .ok u S) (fun _ S => .ok v S) env S) Q = Ev (f env S) fun d S => match d with
  | .lst xs => Q (.lst (cutD xs u v)) S | .tup xs => Q (.tup (cutD xs u v)) S | _ => False := by
  show Ev (Res.bind _ _) Q = _
  rw [Ev.bind]
  congr 1
  funext d S
  cases d <;> first | exact Ev.of rfl | exact ev_no
theorem oSo_int : oSo (eC (.int k)) = fun _ S => .ok (some k) S := rfl
theorem oNo_eq : oNo = fun _ S => .ok none S := rfl
def withTy (c : String) (d : D) (k : Bool → Prop) : Prop := match isTy c d with | some b => k b | none => False
@[simp ↓] theorem wy_iL {k : Bool → Prop} : withTy "list" (.lst ds) k = k true := rfl
@[simp ↓] theorem wy_tL {k : Bool → Prop} : withTy "tuple" (.lst ds) k = k false := rfl
@[simp ↓] theorem wy_iT {k : Bool → Prop} : withTy "list" (.tup ds) k = k false := rfl
@[simp ↓] theorem wy_tT {k : Bool → Prop} : withTy "tuple" (.tup ds) k = k true := rfl
@[simp ↓] theorem wy_ii {n : Int} {k : Bool → Prop} : withTy "int" (.int n) k = k true := rfl
@[simp ↓] theorem wy_bi {n : Int} {k : Bool → Prop} : withTy "bool" (.int n) k = k false := rfl
@[simp ↓] theorem wy_ib {b : Bool} {k : Bool → Prop} : withTy "int" (.bl b) k = k true := rfl
@[simp ↓] theorem wy_bb {b : Bool} {k : Bool → Prop} : withTy "bool" (.bl b) k = k true := rfl
@[simp ↓] theorem wy_in {k : Bool → Prop} : withTy "int" .non k = k false := rfl
@[simp ↓] theorem wy_bn {k : Bool → Prop} : withTy "bool" .non k = k false := rfl
@[simp ↓] theorem wy_is {x : Str} {k : Bool → Prop} : withTy "int" (.str x) k = k false := rfl
@[simp ↓] theorem ev_eIsi {c : String} : Ev (eIsi c f env S) Q = Ev (f env S) fun d S => withTy c d fun b => Q (.bl b) S := by
  show Ev (Res.bind _ _) Q = _
  rw [Ev.bind]
  congr 1
  funext d S
  unfold withTy
  generalize isTy c d = x
  cases x <;> first | exact ev_no | exact Ev.of rfl
@[simp ↓] theorem ev_eIsi2 {c c' : String} : Ev (eIsi2 c c' f env S) Q = Ev (f env S) fun d S => withTy c d fun b => withTy c' d fun b' => Q (.bl (b || b')) S := by
  show Ev (Res.bind _ _) Q = _
  rw [Ev.bind]
  congr 1
  funext d S
  unfold withTy
  cases isTy c d <;> cases isTy c' d <;> first | exact Ev.of rfl | exact ev_no
@[simp ↓] theorem ev_minDef {gg : Int → List Int → Int} : Ev (eMinDef gg f g env S) Q = Ev (f env S) fun d S => Ev (g env S) fun z S => match d with
  | .lst xs => (match allInt xs with | some [] => Q z S | some (n :: ns) => Q (.int (gg n ns)) S | none => False)
  | _ => False := by
  show Ev (Res.bind _ _) Q = _
  simp only [Ev.bind]
  congr 1
  funext d S
  congr 1
  funext z S
  cases d with
  | lst xs =>
    show Ev (match allInt xs with | some [] => Res.ok z S | some (n :: ns) => .ok (.int (gg n ns)) S | none => .stuck) Q = match allInt xs with | some [] => Q z S | some (n :: ns) => Q (.int (gg n ns)) S | none => False
    cases allInt xs with
    | none => exact ev_no
    | some ns => cases ns <;> exact Ev.of rfl
  | _ => exact ev_no
end
/-- statements: what follows, what is returned, break, continue -/
def EvS (r : Res Out) (nx : Env → Sto → Prop) (rt : D → Sto → Prop) (bk ct : Env → Sto → Prop) : Prop := Ev r fun o S => match o with | .nx e => nx e S | .rt d => rt d S | .bk e => bk e S | .ct e => ct e S
section
variable {env : Env} {S : Sto} {f g h : EE} {l : EL} {p : ET} {s t : SS} {i : Nat} {d : D} {nx bk ct : Env → Sto → Prop} {rt : D → Sto → Prop}
theorem evs_bind {α : Type} {r : Res α} {k : α → Sto → Res Out} : EvS (r.bind k) nx rt bk ct = Ev r fun a S => EvS (k a S) nx rt bk ct := Ev.bind
theorem evs_no : EvS .stuck nx rt bk ct = False := ev_no
@[simp ↓] theorem evs_nx : EvS (.ok (.nx env) S) nx rt bk ct = nx env S := Ev.of rfl
@[simp ↓] theorem evs_rt : EvS (.ok (.rt d) S) nx rt bk ct = rt d S := Ev.of rfl
@[simp ↓] theorem evs_bk : EvS (.ok (.bk env) S) nx rt bk ct = bk env S := Ev.of rfl
@[simp ↓] theorem evs_ct : EvS (.ok (.ct env) S) nx rt bk ct = ct env S := Ev.of rfl
@[simp ↓] theorem es_nil : EvS (sNil env S) nx rt bk ct = nx env S := Ev.of rfl
@[simp ↓] theorem es_seq : EvS (sSeq s t env S) nx rt bk ct = EvS (s env S) (fun env S => EvS (t env S) nx rt bk ct) rt bk ct := by
  show EvS (Res.bind _ _) nx rt bk ct = _
  rw [evs_bind]
  unfold EvS
  congr 1
  funext x S
  cases x <;> first | rfl | exact Ev.of rfl
@[simp ↓] theorem es_set : EvS (sSet i f env S) nx rt bk ct = Ev (f env S) fun d S => withSet env i (some (.sh d)) fun env => nx env S := by
  show EvS (Res.bind _ _) nx rt bk ct = _
  simp only [evs_bind, evs_nx]
  rfl
@[simp ↓] theorem es_new : EvS (sNew i l env S) nx rt bk ct = Ev (l env S) fun ds S => withSet env i (some (.own ds)) fun env => nx env S := by
  show EvS (Res.bind _ _) nx rt bk ct = _
  simp only [evs_bind, evs_nx]
  rfl
@[simp ↓] theorem es_ret : EvS (sRet f env S) nx rt bk ct = Ev (f env S) rt := by
  show EvS (Res.bind _ _) nx rt bk ct = _
  simp only [evs_bind, evs_rt]
@[simp ↓] theorem es_retN : EvS (sRetN env S) nx rt bk ct = rt .non S := Ev.of rfl
@[simp ↓] theorem es_if : EvS (sIf p s t env S) nx rt bk ct = Ev (p env S) fun b S => if b = true then EvS (s env S) nx rt bk ct else EvS (t env S) nx rt bk ct := by
  show EvS (Res.bind _ _) nx rt bk ct = _
  rw [evs_bind]
  congr 1
  funext b S
  cases b <;> rfl
@[simp ↓] theorem es_drop : EvS (sDrop f env S) nx rt bk ct = Ev (f env S) fun _ S => nx env S := by
  show EvS (Res.bind _ _) nx rt bk ct = _
  simp only [evs_bind, evs_nx]
@[simp ↓] theorem es_asgT {g : GE} : EvS (sAsgT g f env S) nx rt bk ct = Ev (f env S) fun d S => withG g d env fun env => nx env S := by
  show EvS (Res.bind _ _) nx rt bk ct = _
  rw [evs_bind]
  congr 1
  funext d S
  unfold withG
  cases g d env with
  | some e => exact Ev.of rfl
  | none => exact ev_no
@[simp ↓] theorem es_app : EvS (sApp i f env S) nx rt bk ct = Ev (f env S) fun d S => withOwn env i fun ds => ds.length < 1000000 ∧ withSet env i (some (.own (ds ++ [d]))) fun env => nx env S := by
  show EvS (Res.bind _ _) nx rt bk ct = _
  rw [evs_bind]
  congr 1
  funext d S
  have key : ∀ z : Option (Option Slot), EvS (match z with | some (some (.own ds)) => if ds.length < 1000000 then .ok (.nx (env.set i (some (.own (ds ++ [d]))))) S else .stuck | _ => .stuck) nx rt bk ct = match z with | some (some (.own ds)) => ds.length < 1000000 ∧ nx (env.set i (some (.own (ds ++ [d])))) S | _ => False := fun z => by
    cases z with
    | none => exact evs_no
    | some y =>
      cases y with
      | none => exact evs_no
      | some w =>
        cases w with
        | sh _ => exact evs_no
        | own ds =>
          show Ev (if _ then _ else _) _ = _
          rw [ev_stk]
          congr 1
          exact evs_nx
  exact key env[i]?
@[simp ↓] theorem es_pop : EvS (sPop i env S) nx rt bk ct = withOwn env i fun ds => ds ≠ [] ∧ withSet env i (some (.own ds.dropLast)) fun env => nx env S := by
  have key : ∀ z : Option (Option Slot), EvS (match z with | some (some (.own ds)) => if ds = [] then .stuck else .ok (.nx (env.set i (some (.own ds.dropLast)))) S | _ => .stuck) nx rt bk ct = match z with | some (some (.own ds)) => ds ≠ [] ∧ nx (env.set i (some (.own ds.dropLast))) S | _ => False := fun z => by
    cases z with
    | none => exact evs_no
    | some y =>
      cases y with
      | none => exact evs_no
      | some w =>
        cases w with
        | sh _ => exact evs_no
        | own ds =>
          show EvS (if ds = [] then .stuck else .ok (.nx (env.set i (some (.own ds.dropLast)))) S) nx rt bk ct = (ds ≠ [] ∧ nx (env.set i (some (.own ds.dropLast))) S)
          by_cases hd : ds = []
          · rw [if_pos hd, evs_no]; exact propext ⟨False.elim, fun q => absurd hd q.1⟩
          · rw [if_neg hd, evs_nx]; exact propext ⟨fun q => ⟨hd, q⟩, fun q => q.2⟩
  exact key env[i]?
@[simp ↓] theorem es_frz : EvS (sFrz i s env S) nx rt bk ct = withFrz env i fun env => EvS (s env S) nx rt bk ct := by
  have key : ∀ z : Option (Option Slot), EvS (match z with | some (some (.own ds)) => s (env.set i (some (.sh (.lst ds)))) S | _ => s env S) nx rt bk ct = match z with | some (some (.own ds)) => EvS (s (env.set i (some (.sh (.lst ds)))) S) nx rt bk ct | _ => EvS (s env S) nx rt bk ct := fun z => by
    cases z with
    | none => rfl
    | some y =>
      cases y with
      | none => rfl
      | some w => cases w <;> rfl
  exact key env[i]?
@[simp ↓] theorem es_store1 : EvS (sStore f (eV 0) (eC (.int 1)) (some (.sh (.mu 0)) :: env) S) nx rt bk ct = Ev (f (some (.sh (.mu 0)) :: env) S) fun d S => match S with | [[a, _, c]] => nx (some (.sh (.mu 0)) :: env) [[a, d, c]] | S => EvS (sStore (eC d) (eV 0) (eC (.int 1)) (some (.sh (.mu 0)) :: env) S) nx rt bk ct := by
  show EvS (Res.bind _ _) nx rt bk ct = _
  rw [evs_bind]
  congr 1
  funext d S
  split
  · exact Ev.of rfl
  · rfl
@[simp ↓] theorem es_store2 : EvS (sStore f (eV 0) (eC (.int 2)) (some (.sh (.mu 0)) :: env) S) nx rt bk ct = Ev (f (some (.sh (.mu 0)) :: env) S) fun d S => match S with | [[a, b, _]] => nx (some (.sh (.mu 0)) :: env) [[a, b, d]] | S => EvS (sStore (eC d) (eV 0) (eC (.int 2)) (some (.sh (.mu 0)) :: env) S) nx rt bk ct := by
  show EvS (Res.bind _ _) nx rt bk ct = _
  rw [evs_bind]
  congr 1
  funext d S
  split
  · exact Ev.of rfl
  · rfl
@[simp ↓] theorem es_for {it : EL} {g : GE} {b : SS} : EvS (sFor it g b env S) nx rt bk ct = Ev (it env S) fun ds S => EvS (forGo g b ds env S) nx rt bk ct := evs_bind
@[simp ↓] theorem es_stuck : EvS (sStuck env S) nx rt bk ct = False := ev_no
theorem ev_runD {N : Nat} {ds : List D} {Q : D → Sto → Prop} : Ev (runD N s ds S) Q = EvS (s (startE N ds) S) (fun _ S => Q .non S) Q (fun _ _ => False) (fun _ _ => False) := by
  unfold runD EvS
  cases s (startE N ds) S with
  | stuck => exact propext ⟨fun ⟨_, _, e, _⟩ => (by cases e), fun ⟨_, _, e, _⟩ => (by cases e)⟩
  | ok o S' =>
    rw [ev_ok]
    cases o <;> first | exact Ev.of rfl | exact ev_no
theorem EvS.imp {r : Res Out} {nx' bk' ct' : Env → Sto → Prop} {rt' : D → Sto → Prop} (h : EvS r nx rt bk ct) (i1 : ∀ e S, nx e S → nx' e S) (i2 : ∀ d S, rt d S → rt' d S) (i3 : ∀ e S, bk e S → bk' e S) (i4 : ∀ e S, ct e S → ct' e S) : EvS r nx' rt' bk' ct' := by
  refine Ev.imp h fun o S q => ?_
  cases o with
  | nx e => exact i1 e S q
  | rt e => exact i2 e S q
  | bk e => exact i3 e S q
  | ct e => exact i4 e S q
end

/-! ### loops -/
theorem forGo_inv {g : GE} {b : SS} {nx bk ct : Env → Sto → Prop} {rt : D → Sto → Prop} (P : Nat → Env → Sto → Prop) : ∀ (ds : List D) (i : Nat) (h : ∀ j d env S, ds[j]? = some d → P (i + j) env S → withG g d env fun env1 => EvS (b env1 S) (P (i + j + 1)) rt nx (P (i + j + 1))) (env : Env) (S : Sto), P i env S →
    (∀ env S, P (i + ds.length) env S → nx env S) → EvS (forGo g b ds env S) nx rt bk ct
  | [], i, _, env, S, p, q => ⟨.nx env, S, rfl, q env S p⟩
  | d :: ds, i, h, env, S, p, q => by
    obtain ⟨env1, e1, o, S2, e2, p2⟩ := (h 0 d env S rfl p).out
    have ih := fun env2 S2 p2 => forGo_inv (nx := nx) (bk := bk) (ct := ct) (rt := rt) P ds (i + 1) (fun j d env S hd hp => by
      have := h (j + 1) d env S (by simpa using hd) (by rw [show i + (j + 1) = i + 1 + j by omega]; exact hp)
      rw [show i + (j + 1) + 1 = i + 1 + j + 1 by omega] at this
      exact this) env2 S2 p2 (fun env S p => q env S (by rw [List.length_cons, show i + (ds.length + 1) = i + 1 + ds.length by omega]; exact p))
    have e : forGo g b (d :: ds) env S = (b env1 S).bind fun o S => match o with
      | .nx env2 => forGo g b ds env2 S | .ct env2 => forGo g b ds env2 S | .bk env2 => .ok (.nx env2) S | .rt d => .ok (.rt d) S := by
      show (match g d env with | none => Res.stuck | some env1 => (b env1 S).bind fun o S => match o with
        | .nx env2 => forGo g b ds env2 S | .ct env2 => forGo g b ds env2 S | .bk env2 => .ok (.nx env2) S | .rt d => .ok (.rt d) S) = _
      rw [e1]
    rw [e, e2, Res.bind_eq]
    cases o with
    | nx env2 => exact ih env2 S2 p2
    | ct env2 => exact ih env2 S2 p2
    | bk env2 => exact ⟨_, _, rfl, p2⟩
    | rt d => exact ⟨_, _, rfl, p2⟩
/-- a state goes along -/
theorem forGo_fold {γ β : Type} {g : GE} {b : SS} {nx bk ct : Env → Sto → Prop} {rt : D → Sto → Prop} (enc : γ → D) (P : β → Env → Sto → Prop) (step : β → γ → β) : ∀ (xs : List γ) (h : ∀ c x env S, x ∈ xs → P c env S → withG g (enc x) env fun env1 => EvS (b env1 S) (P (step c x)) rt nx (P (step c x))) (c : β) (env : Env) (S : Sto), P c env S →
    (∀ env S, P (xs.foldl step c) env S → nx env S) → EvS (forGo g b (xs.map enc) env S) nx rt bk ct
  | [], _, c, env, S, p, q => ⟨.nx env, S, rfl, q env S p⟩
  | x :: xs, h, c, env, S, p, q => by
    obtain ⟨env1, e1, o, S2, e2, p2⟩ := (h c x env S List.mem_cons_self p).out
    have ih := fun env2 S2 p2 => forGo_fold (nx := nx) (bk := bk) (ct := ct) (rt := rt) enc P step xs (fun c x env S hx => h c x env S (List.mem_cons_of_mem _ hx)) (step c x) env2 S2 p2 q
    have e : forGo g b (enc x :: xs.map enc) env S = (b env1 S).bind fun o S => match o with
      | .nx env2 => forGo g b (xs.map enc) env2 S | .ct env2 => forGo g b (xs.map enc) env2 S | .bk env2 => .ok (.nx env2) S | .rt d => .ok (.rt d) S := by
      show (match g (enc x) env with | none => Res.stuck | some env1 => (b env1 S).bind fun o S => match o with
        | .nx env2 => forGo g b (xs.map enc) env2 S | .ct env2 => forGo g b (xs.map enc) env2 S | .bk env2 => .ok (.nx env2) S | .rt d => .ok (.rt d) S) = _
      rw [e1]
    show EvS (forGo g b (enc x :: xs.map enc) env S) nx rt bk ct
    rw [e, e2, Res.bind_eq]
    cases o with
    | nx env2 => exact ih env2 S2 p2
    | ct env2 => exact ih env2 S2 p2
    | bk env2 => exact ⟨_, _, rfl, p2⟩
    | rt d => exact ⟨_, _, rfl, p2⟩
theorem compGo_pure {γ : Type} {g : GE} {p : ET} {f : EE} {env0 : Env} {S : Sto} {Q : List D → Sto → Prop} (enc : γ → D) (keep : γ → Bool) (out : γ → D) (xs : List γ) (h : ∀ x ∈ xs, withG g (enc x) env0 fun env => Ev (p env S) fun b S1 => b = keep x ∧ S1 = S ∧ (keep x = true → Ev (f env S) fun d S2 => d = out x ∧ S2 = S)) :
    Ev (compGo g p f env0 (xs.map enc) S) Q = Q ((xs.filter keep).map out) S := by
  refine Ev.of ?_
  induction xs with
  | nil => rfl
  | cons x xs ih =>
    obtain ⟨env, e1, _, _, e2, rfl, rfl, e3⟩ := (h x List.mem_cons_self).out
    have ih := ih fun y hy => h y (List.mem_cons_of_mem _ hy)
    show (match g (enc x) env0 with | none => Res.stuck | some env => (p env _).bind fun k S => if k = true then (f env S).bind fun y S => (compGo g p f env0 (xs.map enc) S).bind fun ys S => .ok (y :: ys) S else compGo g p f env0 (xs.map enc) S) = _
    rw [e1]
    show (p env _).bind _ = _
    rw [e2, Res.bind_eq, List.filter_cons]
    cases hk : keep x with
    | true =>
      obtain ⟨_, _, e4, rfl, rfl⟩ := e3 hk
      rw [if_pos rfl, e4, Res.bind_eq, ih, Res.bind_eq, if_pos rfl]
      rfl
    | false =>
      rw [if_neg (by simp), ih, if_neg (by simp)]
theorem compGo_all {γ : Type} {g : GE} {f : EE} {env0 : Env} {S : Sto} {Q : List D → Sto → Prop} (enc : γ → D) (out : γ → D) (xs : List γ) (h : ∀ x ∈ xs, withG g (enc x) env0 fun env => Ev (f env S) fun d S2 => d = out x ∧ S2 = S) :
    Ev (compGo g eYes f env0 (xs.map enc) S) Q = Q (xs.map out) S := by
  rw [compGo_pure enc (fun _ => true) out xs fun x hx => by
    obtain ⟨env, e1, e2⟩ := (h x hx).out
    unfold withG
    rw [e1]
    exact ⟨true, S, rfl, rfl, rfl, fun _ => e2⟩]
  rw [List.filter_eq_self.mpr fun _ _ => rfl]
/-- a comprehension whose steps change the store -/
theorem compGo_st {γ : Type} {g : GE} {f : EE} {env0 : Env} (enc : γ → D) (P : Nat → Sto → Prop) (R : γ → D → Prop) : ∀ (xs : List γ) (i : Nat) (S : Sto) (h : ∀ x ∈ xs, ∀ j S, j < i + xs.length → P j S → withG g (enc x) env0 fun env => Ev (f env S) fun y S' => P (j + 1) S' ∧ R x y), P i S →
    Ev (compGo g eYes f env0 (xs.map enc) S) fun ys S' => P (i + xs.length) S' ∧ ys.length = xs.length ∧ ∀ y ∈ ys, ∃ x ∈ xs, R x y
  | [], i, S, _, p => ⟨[], S, rfl, p, rfl, fun y hy => (by cases hy)⟩
  | x :: xs, i, S, h, p => by
    obtain ⟨env, e1, y, S1, e2, p1, r1⟩ := (h x List.mem_cons_self i S (by rw [List.length_cons]; omega) p).out
    obtain ⟨ys, S', e3, p3, hl, r3⟩ := compGo_st enc P R xs (i + 1) S1 (fun x hx j S hj => h x (List.mem_cons_of_mem _ hx) j S (by rw [List.length_cons]; omega)) p1
    refine ⟨y :: ys, S', ?_, by rw [List.length_cons, show i + (xs.length + 1) = i + 1 + xs.length by omega]; exact p3, by rw [List.length_cons, List.length_cons, hl], fun z hz => ?_⟩
    · show (match g (enc x) env0 with | none => Res.stuck | some env => (eYes env S).bind fun k S => if k = true then (f env S).bind fun y S => (compGo g eYes f env0 (xs.map enc) S).bind fun ys S => .ok (y :: ys) S else compGo g eYes f env0 (xs.map enc) S) = _
      rw [e1]
      show (f env S).bind _ = _
      rw [e2, Res.bind_eq, e3]
      rfl
    · rcases List.mem_cons.mp hz with r | r
      · rw [r]; exact ⟨x, List.mem_cons_self, r1⟩
      · obtain ⟨w, hw, rw'⟩ := r3 z r
        exact ⟨w, List.mem_cons_of_mem _ hw, rw'⟩
end DL

/-! DL14: == of encoded things, sorted, the pen that draws. -/
namespace DL
open PySem PySem.Spec PyProof.Rows L2
/-- an encoding that == tells apart -/
structure EqE {α : Type} (f : α → D) (n : Nat) : Prop where
  pl : ∀ a, pl (f a) = true
  dp : ∀ a, (toPy (f a)).depth ≤ n
  eq : ∀ a b, eqD (f a) (f b) = true ↔ a = b
theorem eqv_int (i j : Int) : PyData.eqv (.int i) (.int j) = (i == j) := by simp only [PyData.eqv]
theorem eqE_int : EqE D.int 0 := ⟨fun _ => rfl, fun _ => Nat.le_refl _, fun a b => by show PyData.eqv (.int a) (.int b) = true ↔ _; rw [eqv_int, beq_iff_eq]⟩
def dOpt : Option Int → D
  | none => .non
  | some i => .int i
theorem eqE_opt : EqE dOpt 0 := ⟨fun a => by cases a <;> rfl, fun a => by cases a <;> exact Nat.le_refl _, fun a b => by
  cases a <;> cases b
  · show PyData.eqv .none .none = true ↔ _; simp [PyData.eqv]
  · show PyData.eqv .none (.int _) = true ↔ _; simp [PyData.eqv]
  · show PyData.eqv (.int _) .none = true ↔ _; simp [PyData.eqv]
  · show PyData.eqv (.int _) (.int _) = true ↔ _; simp [PyData.eqv]⟩
theorem eqE_pair : EqE dPair 1 := ⟨fun a => rfl, fun a => Nat.le_refl _, fun a b => by
  show PyData.eqv (.tuple [.int _, .int _]) (.tuple [.int _, .int _]) = true ↔ _
  simp only [PyData.eqv, PyData.eqvAll, Bool.and_true, Bool.and_eq_true, beq_iff_eq]
  exact ⟨fun ⟨h1, h2⟩ => Prod.ext h1 h2, fun h => by rw [h]; exact ⟨rfl, rfl⟩⟩⟩
section
variable {α : Type} {f : α → D} {n : Nat}
theorem plAll_map (h : EqE f n) : ∀ xs : List α, plAll (xs.map f) = true
  | [] => rfl
  | x :: xs => by show (DL.pl (f x) && plAll (xs.map f)) = true; rw [h.pl x, plAll_map h xs] <;> rfl
theorem depthAll_map (h : EqE f n) : ∀ xs : List α, PyData.depthAll (toPyAll (xs.map f)) ≤ n
  | [] => Nat.zero_le _
  | x :: xs => by
    show max (PyData.depth (toPy (f x))) (PyData.depthAll (toPyAll (xs.map f))) ≤ n
    exact Nat.max_le.mpr ⟨h.dp x, depthAll_map h xs⟩
theorem eqvAll_map (h : EqE f n) : ∀ xs ys : List α, PyData.eqvAll (toPyAll (xs.map f)) (toPyAll (ys.map f)) = true ↔ xs = ys
  | [], [] => by simp only [List.map_nil, toPyAll, PyData.eqvAll]
  | [], y :: ys => by
    show PyData.eqvAll [] (toPy (f y) :: toPyAll (ys.map f)) = true ↔ _
    simp [PyData.eqvAll]
  | x :: xs, [] => by
    show PyData.eqvAll (toPy (f x) :: toPyAll (xs.map f)) [] = true ↔ _
    simp [PyData.eqvAll]
  | x :: xs, y :: ys => by
    show PyData.eqvAll (toPy (f x) :: toPyAll (xs.map f)) (toPy (f y) :: toPyAll (ys.map f)) = true ↔ _
    simp only [PyData.eqvAll, Bool.and_eq_true]
    rw [eqvAll_map h xs ys, List.cons.injEq]
    exact ⟨fun ⟨a, b⟩ => ⟨(h.eq x y).mp a, b⟩, fun ⟨a, b⟩ => ⟨(h.eq x y).mpr a, b⟩⟩
theorem eqE_lst (h : EqE f n) : EqE (fun xs : List α => .lst (xs.map f)) (n + 1) := ⟨fun xs => plAll_map h xs, fun xs => Nat.succ_le_succ (depthAll_map h xs), fun xs ys => by
  show PyData.eqv (.list _) (.list _) = true ↔ _
  simp only [PyData.eqv]
  exact eqvAll_map h xs ys⟩
theorem eqE_tup (h : EqE f n) : EqE (fun xs : List α => .tup (xs.map f)) (n + 1) := ⟨fun xs => plAll_map h xs, fun xs => Nat.succ_le_succ (depthAll_map h xs), fun xs ys => by
  show PyData.eqv (.tuple _) (.tuple _) = true ↔ _
  simp only [PyData.eqv]
  exact eqvAll_map h xs ys⟩
theorem EqE.okD (h : EqE f n) (hn : n ≤ 40) (a : α) : okD (f a) = true := by
  show (DL.pl (f a) && decide ((toPy (f a)).depth ≤ 40)) = true
  rw [h.pl a, Bool.true_and, decide_eq_true_eq]
  exact Nat.le_trans (h.dp a) hn
theorem EqE.eqD [DecidableEq α] (h : EqE f n) (a b : α) : eqD (f a) (f b) = decide (a = b) := by
  rw [Bool.eq_iff_iff, decide_eq_true_eq]
  exact h.eq a b
theorem EqE.oEq [DecidableEq α] (h : EqE f n) (hn : n ≤ 40) (a b : α) (S : Sto) (Q : D → Sto → Prop) : Ev (oEq (f a) (f b) S) Q = Q (.bl (decide (a = b))) S := by
  rw [ev_oEq (h.okD hn a) (h.okD hn b), h.eqD]
theorem EqE.oNe [DecidableEq α] (h : EqE f n) (hn : n ≤ 40) (a b : α) (S : Sto) (Q : D → Sto → Prop) : Ev (oNe (f a) (f b) S) Q = Q (.bl (!decide (a = b))) S := by
  rw [ev_oNe (h.okD hn a) (h.okD hn b), h.eqD]
end
/-! sorted -/
theorem leD_int (a b : Int) : leD (.int a) (.int b) = decide (a ≤ b) := by
  show (!PySem.W.dataLt (.int b) (.int a)) = _
  rw [PySem.W.dataLt_int]
  by_cases h : a ≤ b
  · rw [decide_eq_true h, decide_eq_false (by omega)]; rfl
  · rw [decide_eq_false h, decide_eq_true (by omega)]; rfl
theorem leD_pair (p q : Int × Int) : leD (dPair p) (dPair q) = leP p q := by
  have e : PySem.W.dataLt (toPy (dPair q)) (toPy (dPair p)) = if q.1 = p.1 then decide (q.2 < p.2) else decide (q.1 < p.1) := PySem.W.DatumOrd.lt_eq q p
  show (!PySem.W.dataLt (toPy (dPair q)) (toPy (dPair p))) = leP p q
  rw [e]
  unfold leP
  split
  · rename_i h
    by_cases h2 : q.2 < p.2
    · rw [decide_eq_true h2, decide_eq_false (by omega)]; rfl
    · rw [decide_eq_false h2, decide_eq_true (by omega)]; rfl
  · rename_i h
    by_cases h2 : q.1 < p.1
    · rw [decide_eq_true h2, decide_eq_false (by omega)]; rfl
    · rw [decide_eq_false h2, decide_eq_true (by omega)]; rfl
theorem ev_sortI (ns : List Int) (S : Sto) (Q : List D → Sto → Prop) : Ev (oSorted [.lst (ns.map .int)] S) Q = Q ((ns.mergeSort fun a b => decide (a ≤ b)).map .int) S := Ev.of (by
  show (if sortable (ns.map D.int) = true then Res.ok ((ns.map D.int).mergeSort leD) S else .stuck) = _
  rw [if_pos (by unfold sortable; rw [allInt_of]; rfl)]
  congr 1
  exact (PySem.W.sort_maps D.int fun a _ b _ => (leD_int a b).symm).symm)
theorem ev_sortP (ps : List (Int × Int)) (S : Sto) (Q : List D → Sto → Prop) : Ev (oSorted [.lst (ps.map dPair)] S) Q = Q ((ps.mergeSort leP).map dPair) S := Ev.of (by
  show (if sortable (ps.map dPair) = true then Res.ok ((ps.map dPair).mergeSort leD) S else .stuck) = _
  rw [if_pos (by unfold sortable; rw [allPair_of, Option.isSome_some, Bool.or_true])]
  congr 1
  exact (PySem.W.sort_maps dPair fun a _ b _ => (leD_pair a b).symm).symm)
end DL

/-! DL15: pairs, ranges, prefixes. -/
namespace DL
open PySem PySem.Spec PyProof.Rows L2
section
variable {env : Env} {S : Sto} {p : Int × Int} {k : Env → Prop} {Q : D → Sto → Prop} {QL : List D → Sto → Prop}
@[simp ↓] theorem wg_p {g h : GE} : withG (gTp 2 (gsCons g (gsCons h gsNil))) (dPair p) env k = withG g (.int p.1) env fun e => withG h (.int p.2) e k := wg_2
@[simp ↓] theorem ev_p0 : Ev (oIx (dPair p) (.int 0) S) Q = Q (.int p.1) S := Ev.of rfl
@[simp ↓] theorem ev_p1 : Ev (oIx (dPair p) (.int 1) S) Q = Q (.int p.2) S := Ev.of rfl
@[simp ↓] theorem ev_lenP : Ev (bLen [dPair p] S) Q = Q (.int 2) S := Ev.of rfl
@[simp ↓] theorem ev_maxPr : Ev (bMax [dPair p] S) Q = Q (.int (max p.1 p.2)) S := Ev.of rfl
@[simp ↓] theorem ev_minPr : Ev (bMin [dPair p] S) Q = Q (.int (min p.1 p.2)) S := Ev.of rfl
@[simp ↓] theorem wy_lP {k : Bool → Prop} : withTy "list" (dPair p) k = k false := rfl
@[simp ↓] theorem wy_tP {k : Bool → Prop} : withTy "tuple" (dPair p) k = k true := rfl
@[simp] theorem dPair_eq (a b : Int) : D.tup [.int a, .int b] = dPair (a, b) := rfl
theorem forGo_pre {γ : Type} {g : GE} {b : SS} {nx bk ct : Env → Sto → Prop} {rt : D → Sto → Prop} (enc : γ → D) (P : List γ → Env → Sto → Prop) : ∀ (xs pre : List γ) (h : ∀ pre' x post env S, pre ++ xs = pre' ++ x :: post → P pre' env S → withG g (enc x) env fun env1 => EvS (b env1 S) (P (pre' ++ [x])) rt nx (P (pre' ++ [x]))) (env : Env) (S : Sto), P pre env S →
    (∀ env S, P (pre ++ xs) env S → nx env S) → EvS (forGo g b (xs.map enc) env S) nx rt bk ct
  | [], pre, _, env, S, p, q => ⟨.nx env, S, rfl, q env S (by rw [List.append_nil]; exact p)⟩
  | x :: xs, pre, h, env, S, p, q => by
    obtain ⟨env1, e1, o, S2, e2, p2⟩ := (h pre x xs env S rfl p).out
    have ap : pre ++ x :: xs = (pre ++ [x]) ++ xs := by rw [List.append_assoc]; rfl
    have ih := fun env2 S2 p2 => forGo_pre (nx := nx) (bk := bk) (ct := ct) (rt := rt) enc P xs (pre ++ [x]) (fun pre' y post env S e => h pre' y post env S (by rw [ap]; exact e)) env2 S2 p2 (fun env S p => q env S (by rw [ap]; exact p))
    have e : forGo g b (enc x :: xs.map enc) env S = (b env1 S).bind fun o S => match o with
      | .nx env2 => forGo g b (xs.map enc) env2 S | .ct env2 => forGo g b (xs.map enc) env2 S | .bk env2 => .ok (.nx env2) S | .rt d => .ok (.rt d) S := by
      show (match g (enc x) env with | none => Res.stuck | some env1 => (b env1 S).bind fun o S => match o with
        | .nx env2 => forGo g b (xs.map enc) env2 S | .ct env2 => forGo g b (xs.map enc) env2 S | .bk env2 => .ok (.nx env2) S | .rt d => .ok (.rt d) S) = _
      rw [e1]
    show EvS (forGo g b (enc x :: xs.map enc) env S) nx rt bk ct
    rw [e, e2, Res.bind_eq]
    cases o with
    | nx env2 => exact ih env2 S2 p2
    | ct env2 => exact ih env2 S2 p2
    | bk env2 => exact ⟨_, _, rfl, p2⟩
    | rt d => exact ⟨_, _, rfl, p2⟩
/-- two clauses, nothing tested in the first, the store as it was -/
theorem compGo2_all {γ δ : Type} {g g1 : GE} {p1 : ET} {f : EE} {it1 : EL} {vs1 : List Nat} {env0 : Env} (enc : γ → D) (enc1 : δ → D) (inn : γ → List δ) (keep : γ → δ → Bool) (out : γ → δ → D) (xs : List γ)
    (h : ∀ x ∈ xs, withG g (enc x) env0 fun env => Ev (it1 env S) fun es S1 => es = (inn x).map enc1 ∧ S1 = S ∧ ∀ y ∈ inn x, withG g1 (enc1 y) (wipeE env vs1) fun env' => Ev (p1 env' S) fun b S2 => b = keep x y ∧ S2 = S ∧ (keep x y = true → Ev (f env' S) fun d S3 => d = out x y ∧ S3 = S)) :
    Ev (compGo2 g eYes it1 g1 p1 f vs1 env0 (xs.map enc) S) QL = QL (xs.flatMap fun x => ((inn x).filter (keep x)).map (out x)) S := by
  refine Ev.of ?_
  induction xs with
  | nil => rfl
  | cons x xs ih =>
    obtain ⟨env, e1, es, S1, e2, hes, hS, h3⟩ := (h x List.mem_cons_self).out
    rw [hes, hS] at e2
    have ih := ih fun y hy => h y (List.mem_cons_of_mem _ hy)
    have e4 : compGo g1 p1 f (wipeE env vs1) ((inn x).map enc1) S = .ok (((inn x).filter (keep x)).map (out x)) S := Ev.eq (by
      rw [compGo_pure enc1 (keep x) (out x) (inn x) h3]
      exact ⟨rfl, rfl⟩)
    show (match g (enc x) env0 with | none => Res.stuck | some env => (eYes env S).bind fun k S => if k = true then (it1 env S).bind fun es S => (compGo g1 p1 f (wipeE env vs1) es S).bind fun ys S => (compGo2 g eYes it1 g1 p1 f vs1 env0 (xs.map enc) S).bind fun zs S => .ok (ys ++ zs) S else compGo2 g eYes it1 g1 p1 f vs1 env0 (xs.map enc) S) = _
    rw [e1]
    show (it1 env S).bind _ = _
    rw [e2, Res.bind_eq, e4, Res.bind_eq, ih, Res.bind_eq, List.flatMap_cons]
end
/-! ranges -/
theorem enD_range (f : Nat → D) (n : Nat) : enD ((List.range n).map f) = (List.range n).map fun i => .tup [.int (i : Nat), f i] := by
  unfold enD
  refine List.ext_getElem? fun i => ?_
  rw [List.getElem?_mapIdx, List.getElem?_map, List.getElem?_map]
  by_cases hi : i < n
  · rw [List.getElem?_range hi]; rfl
  · rw [List.getElem?_eq_none (by rw [List.length_range]; omega)]; rfl
theorem zipD_range (f g : Nat → D) (n : Nat) : zipD ((List.range n).map f) ((List.range n).map g) = (List.range n).map fun i => .tup [f i, g i] := by
  unfold zipD
  refine List.ext_getElem? fun i => ?_
  rw [List.getElem?_zipWith, List.getElem?_map, List.getElem?_map, List.getElem?_map]
  by_cases hi : i < n
  · rw [List.getElem?_range hi]; rfl
  · rw [List.getElem?_eq_none (by rw [List.length_range]; omega)]; rfl
theorem cut_to (f : Nat → D) {n m : Nat} (h : m ≤ n) : cutD ((List.range n).map f) none (some (m : Nat)) = (List.range m).map f := by
  unfold cutD
  have hl : ((List.range n).map f).length = n := by rw [List.length_map, List.length_range]
  rw [hl, show HT.sIx n 0 none = 0 from HT.sIx_none n 0, show HT.sIx n n (some (m : Int)) = min m n from HT.sIx_nat n n m, Nat.min_eq_left h, List.drop_zero, Nat.sub_zero, ← List.map_take, List.take_range, Nat.min_eq_left h]
theorem cut_from_to (f : Nat → D) {n m : Nat} (h : m + 1 ≤ n) : cutD ((List.range n).map f) (some 1) (some ((m : Int) + 1)) = (List.range m).map fun i => f (i + 1) := by
  unfold cutD
  have hl : ((List.range n).map f).length = n := by rw [List.length_map, List.length_range]
  have e1 : HT.sIx n 0 (some 1) = 1 := by
    rw [show HT.sIx n 0 (some 1) = min 1 n from HT.sIx_nat n 0 1]
    omega
  have e2 : HT.sIx n n (some ((m : Int) + 1)) = m + 1 := by
    rw [show ((m : Int) + 1) = ((m + 1 : Nat) : Int) by omega, show HT.sIx n n (some ((m + 1 : Nat) : Int)) = min (m + 1) n from HT.sIx_nat n n (m + 1)]
    omega
  rw [hl, e1, e2]
  refine List.ext_getElem? fun i => ?_
  rw [List.getElem?_take, List.getElem?_drop, List.getElem?_map, List.getElem?_map]
  by_cases hi : i < m
  · rw [if_pos (by omega), List.getElem?_range (by omega), List.getElem?_range hi, Nat.add_comm 1 i]; rfl
  · rw [if_neg (by omega), List.getElem?_eq_none (by rw [List.length_range]; omega)]; rfl
theorem filter_range (n k : Nat) : (List.range n).filter (fun c => decide (c < k)) = List.range (min n k) := by
  induction n with
  | zero => rw [Nat.zero_min]; rfl
  | succ n ih =>
    rw [List.range_succ, List.filter_append, ih, List.filter_cons, List.filter_nil]
    by_cases h : n < k
    · rw [if_pos (by rw [decide_eq_true_eq]; exact h), Nat.min_eq_left (by omega), Nat.min_eq_left (by omega), List.range_succ]
    · rw [if_neg (by rw [decide_eq_true_eq]; exact h), Nat.min_eq_right (by omega), Nat.min_eq_right (by omega), List.append_nil]
@[simp ↓] theorem ev_lastA {xs : List D} {x : D} {S : Sto} {Q : D → Sto → Prop} : Ev (oIx (.lst (xs ++ [x])) (.int (-1)) S) Q = Q x S := ev_ixL (atI_last _ _)
@[simp ↓] theorem ev_lastT {xs : List D} {x : D} {S : Sto} {Q : D → Sto → Prop} : Ev (oIx (.tup (xs ++ [x])) (.int (-1)) S) Q = Q x S := ev_ixT (atI_last _ _)
theorem ev_last {γ : Type} (e : γ → D) (xs : List γ) (x : γ) {S : Sto} {Q : D → Sto → Prop} : Ev (oIx (.lst ((xs ++ [x]).map e)) (.int (-1)) S) Q = Q (e x) S := ev_ixL (by rw [List.map_append]; exact atI_last _ _)
end DL

/-! Stairs: lists of corners, what is least, cuts. Plain mathematics. -/
namespace DL
open PySem PySem.Spec PyProof.Rows L2
abbrev P2 := Int × Int
/-- one step of a cut -/
def cutStep (found : List P2) (p : P2) : List P2 := match found.getLast? with
  | none => [p]
  | some q => if p.2 < q.2 then found ++ [p] else found
theorem cutStep_nil (p : P2) : cutStep [] p = [p] := rfl
theorem cutStep_snoc (f : List P2) (q p : P2) : cutStep (f ++ [q]) p = if p.2 < q.2 then f ++ [q] ++ [p] else f ++ [q] := by
  unfold cutStep
  rw [List.getLast?_concat]
theorem snoc_of {α : Type} (f : List α) : f = [] ∨ ∃ g q, f = g ++ [q] := by
  cases h : f.getLast? with
  | none => exact .inl (List.getLast?_eq_none_iff.mp h)
  | some q => exact .inr ((List.getLast?_eq_some_iff.mp h).imp fun g e => ⟨q, e⟩)
/-- the corners of pairs, sorted -/
def cornersOf (ps : List P2) : List P2 := (ps.map fun p => (max p.1 p.2, p.2)).mergeSort leP
def cutP (ps : List P2) : List P2 := (cornersOf ps).foldl cutStep []
theorem leP_iff {p q : P2} : leP p q = true ↔ p.1 < q.1 ∨ (p.1 = q.1 ∧ p.2 ≤ q.2) := by unfold leP; rw [decide_eq_true_eq]
theorem corners_sorted (ps : List P2) : (cornersOf ps).Pairwise fun p q => leP p q = true :=
  List.pairwise_mergeSort (fun a b c h1 h2 => by rw [leP_iff] at *; omega) (fun a b => by rw [Bool.or_eq_true, leP_iff, leP_iff]; omega) _
theorem mem_corners {ps : List P2} {q : P2} : q ∈ cornersOf ps ↔ ∃ p ∈ ps, q = (max p.1 p.2, p.2) := by
  unfold cornersOf
  rw [List.mem_mergeSort, List.mem_map]
  exact ⟨fun ⟨p, h, e⟩ => ⟨p, h, e.symm⟩, fun ⟨p, h, e⟩ => ⟨p, h, e.symm⟩⟩
theorem corners_len (ps : List P2) : (cornersOf ps).length = ps.length := by unfold cornersOf; rw [List.length_mergeSort, List.length_map]
def Falls (p q : P2) : Prop := p.1 < q.1 ∧ q.2 < p.2
/-- what is known of a cut's state behind some of the sorted corners -/
structure CutOk (pre found : List P2) : Prop where
  len : found.length ≤ pre.length
  sub : ∀ q ∈ found, q ∈ pre
  cov : ∀ y ∈ pre, ∃ q ∈ found, q.1 ≤ y.1 ∧ q.2 ≤ y.2
  fal : found.Pairwise Falls
theorem CutOk.start : CutOk [] [] := ⟨Nat.le_refl _, fun _ h => h, fun _ h => absurd h (by simp), List.Pairwise.nil⟩
theorem CutOk.next {pre found : List P2} {p : P2} (h : CutOk pre found) (hs : ∀ q ∈ pre, leP q p = true) : CutOk (pre ++ [p]) (cutStep found p) := by
  rcases snoc_of found with e | ⟨f, q, e⟩
  · subst e
    rw [cutStep_nil]
    have hp : pre = [] := by
      cases pre with
      | nil => rfl
      | cons a r =>
        obtain ⟨q, hq, _⟩ := h.cov a (by simp)
        exact absurd hq (by simp)
    subst hp
    exact ⟨by simp, fun q hq => by simpa using hq, fun y hy => ⟨p, by simp, by simp at hy; rw [hy]; omega⟩, List.pairwise_singleton _ _⟩
  · subst e
    rw [cutStep_snoc]
    have hq : q ∈ pre := h.sub q (by simp)
    have hqp := leP_iff.mp (hs q hq)
    split
    · rename_i hlt
      refine ⟨by have := h.len; simp at this ⊢; omega, fun r hr => ?_, fun y hy => ?_, ?_⟩
      · rcases List.mem_append.mp hr with hr | hr
        · exact List.mem_append_left _ (h.sub r hr)
        · exact List.mem_append_right _ hr
      · rcases List.mem_append.mp hy with hy | hy
        · obtain ⟨r, h1, h2⟩ := h.cov y hy
          exact ⟨r, List.mem_append_left _ h1, h2⟩
        · exact ⟨p, by simp, by simp at hy; rw [hy]; omega⟩
      · rw [List.pairwise_append]
        refine ⟨h.fal, List.pairwise_singleton _ _, fun r hr s hs => ?_⟩
        have hs' : s = p := by simpa using hs
        subst hs'
        have fq : Falls q s := ⟨by omega, hlt⟩
        rcases List.mem_append.mp hr with hr | hr
        · have fr : Falls r q := (List.pairwise_append.mp h.fal).2.2 r hr q (by simp)
          exact ⟨by have := fr.1; have := fq.1; omega, by have := fr.2; have := fq.2; omega⟩
        · have hr' : r = q := by simpa using hr
          rw [hr']; exact fq
    · rename_i hge
      refine ⟨by have := h.len; simp at this ⊢; omega, fun r hr => List.mem_append_left _ (h.sub r hr), fun y hy => ?_, h.fal⟩
      rcases List.mem_append.mp hy with hy | hy
      · exact h.cov y hy
      · have hy' : y = p := by simpa using hy
        rw [hy']
        exact ⟨q, by simp, by omega, by omega⟩
theorem cut_go : ∀ (xs pre found : List P2), CutOk pre found → (pre ++ xs).Pairwise (fun p q => leP p q = true) → CutOk (pre ++ xs) (xs.foldl cutStep found)
  | [], pre, found, h, _ => by rw [List.append_nil]; exact h
  | x :: xs, pre, found, h, hs => by
    have ap : pre ++ x :: xs = (pre ++ [x]) ++ xs := by rw [List.append_assoc]; rfl
    rw [ap] at hs ⊢
    refine cut_go xs (pre ++ [x]) (cutStep found x) (h.next fun q hq => ?_) hs
    exact (List.pairwise_append.mp (List.pairwise_append.mp hs).1).2.2 q hq x (by simp)
theorem cut_ok (ps : List P2) : CutOk (cornersOf ps) (cutP ps) := by
  have := cut_go (cornersOf ps) [] [] CutOk.start (by rw [List.nil_append]; exact corners_sorted ps)
  rwa [List.nil_append] at this
theorem cut_pre {ps : List P2} {pre post : List P2} (e : cornersOf ps = pre ++ post) : CutOk pre (pre.foldl cutStep []) := by
  have hs := corners_sorted ps
  rw [e] at hs
  have := cut_go pre [] [] CutOk.start (by rw [List.nil_append]; exact (List.pairwise_append.mp hs).1)
  rwa [List.nil_append] at this

/-! ### stairs -/
structure Stair (b : Int) (s : List P2) : Prop where
  at_ : ∀ p ∈ s, 1 ≤ p.1 ∧ p.1 ≤ b ∧ 0 ≤ p.2 ∧ p.2 ≤ p.1
  fal : s.Pairwise Falls
theorem Stair.mono {b c : Int} {s : List P2} (h : Stair b s) (hb : b ≤ c) : Stair c s := ⟨fun p hp => by have := h.at_ p hp; omega, h.fal⟩
theorem cut_stair {ps : List P2} {b : Int} (h : ∀ p ∈ ps, 1 ≤ p.1 ∧ p.1 ≤ b ∧ 0 ≤ p.2 ∧ p.2 ≤ b) : Stair b (cutP ps) :=
  ⟨fun q hq => by
    obtain ⟨p, hp, e⟩ := mem_corners.mp ((cut_ok ps).sub q hq)
    have := h p hp
    rw [e]
    show 1 ≤ max p.1 p.2 ∧ max p.1 p.2 ≤ b ∧ 0 ≤ p.2 ∧ p.2 ≤ max p.1 p.2
    omega, (cut_ok ps).fal⟩
theorem cut_nonempty {ps : List P2} (h : ps ≠ []) : cutP ps ≠ [] := by
  cases ps with
  | nil => exact absurd rfl h
  | cons p r =>
    obtain ⟨q, hq, _⟩ := (cut_ok (p :: r)).cov _ (mem_corners.mpr ⟨p, by simp, rfl⟩)
    intro e
    rw [e] at hq
    exact absurd hq (by simp)
/-- count c is allowed by limit L -/
def Al (s : List P2) (c L : Int) : Prop := ∃ p ∈ s, p.1 ≤ L ∧ p.2 + c ≤ L
theorem cut_al {ps : List P2} {c L : Int} (hc : 0 ≤ c) : Al (cutP ps) c L ↔ Al ps c L := by
  constructor
  · rintro ⟨q, hq, h1, h2⟩
    obtain ⟨p, hp, e⟩ := mem_corners.mp ((cut_ok ps).sub q hq)
    rw [e] at h1 h2
    have h1' : max p.1 p.2 ≤ L := h1
    have h2' : p.2 + c ≤ L := h2
    exact ⟨p, hp, by omega, h2'⟩
  · rintro ⟨p, hp, h1, h2⟩
    obtain ⟨q, hq, h3, h4⟩ := (cut_ok ps).cov _ (mem_corners.mpr ⟨p, hp, rfl⟩)
    have h3' : q.1 ≤ max p.1 p.2 := h3
    have h4' : q.2 ≤ p.2 := h4
    exact ⟨q, hq, by omega, by omega⟩
/-- the least limit for a count -/
def lowI (s : List P2) (c : Int) : Int := match s.map (fun p => max p.1 (p.2 + c)) with
  | [] => 0
  | n :: ns => ns.foldl min n
theorem foldl_min_le : ∀ (ns : List Int) (n L : Int), ns.foldl min n ≤ L ↔ n ≤ L ∨ ∃ x ∈ ns, x ≤ L
  | [], n, L => by simp
  | x :: ns, n, L => by
    rw [List.foldl_cons, foldl_min_le ns (min n x) L]
    constructor
    · rintro (h | ⟨y, hy, h⟩)
      · rcases Int.le_total n x with q | q
        · exact .inl (by omega)
        · exact .inr ⟨x, by simp, by omega⟩
      · exact .inr ⟨y, by simp [hy], h⟩
    · rintro (h | ⟨y, hy, h⟩)
      · exact .inl (by omega)
      · rcases List.mem_cons.mp hy with e | e
        · exact .inl (by rw [e] at h; omega)
        · exact .inr ⟨y, e, h⟩
theorem lowI_le {s : List P2} (hs : s ≠ []) {c L : Int} : lowI s c ≤ L ↔ Al s c L := by
  cases s with
  | nil => exact absurd rfl hs
  | cons p r =>
    show (r.map fun p => max p.1 (p.2 + c)).foldl min (max p.1 (p.2 + c)) ≤ L ↔ _
    rw [foldl_min_le]
    constructor
    · rintro (h | ⟨x, hx, h⟩)
      · exact ⟨p, by simp, by omega, by omega⟩
      · obtain ⟨q, hq, rfl⟩ := List.mem_map.mp hx
        exact ⟨q, by simp [hq], by omega, by omega⟩
    · rintro ⟨q, hq, h1, h2⟩
      rcases List.mem_cons.mp hq with e | e
      · subst e; exact .inl (by omega)
      · exact .inr ⟨_, List.mem_map.mpr ⟨q, e, rfl⟩, by omega⟩
theorem lowI_eq {s t : List P2} (hs : s ≠ []) (ht : t ≠ []) {c d : Int} (h : ∀ L, Al s c L ↔ Al t d L) : lowI s c = lowI t d := by
  have h1 := (lowI_le hs (c := c) (L := lowI t d)).mpr ((h _).mpr ((lowI_le ht).mp (Int.le_refl _)))
  have h2 := (lowI_le ht (c := d) (L := lowI s c)).mpr ((h _).mp ((lowI_le hs).mp (Int.le_refl _)))
  omega
theorem lowI_mono {s : List P2} (hs : s ≠ []) {c d : Int} (h : c ≤ d) : lowI s c ≤ lowI s d := by
  rw [lowI_le hs]
  obtain ⟨p, hp, h1, h2⟩ := (lowI_le hs (c := d) (L := lowI s d)).mp (Int.le_refl _)
  exact ⟨p, hp, h1, by omega⟩
theorem lowI_zero {b : Int} {p : P2} {r : List P2} (h : Stair b (p :: r)) : lowI (p :: r) 0 = p.1 := by
  have hp := h.at_ p (by simp)
  have h1 : lowI (p :: r) 0 ≤ p.1 := (lowI_le (by simp)).mpr ⟨p, by simp, by omega, by omega⟩
  obtain ⟨q, hq, h2, h3⟩ := (lowI_le (s := p :: r) (by simp) (c := 0)).mp (Int.le_refl _)
  have h4 : p.1 ≤ q.1 := by
    rcases List.mem_cons.mp hq with e | e
    · rw [e]; omega
    · have := ((List.pairwise_cons.mp h.fal).1 q e).1; omega
  omega
/-- the number in a stair for a limit -/
def numIn (s : List P2) (L : Int) : Option Int := ((s.filter fun p => decide (p.1 ≤ L)).map Prod.snd).getLast?
theorem numIn_none {s : List P2} {L : Int} : numIn s L = none ↔ ∀ p ∈ s, L < p.1 := by
  unfold numIn
  rw [List.getLast?_eq_none_iff, List.map_eq_nil_iff, List.filter_eq_nil_iff]
  constructor
  · intro h p hp
    have := h p hp
    simp at this
    exact this
  · intro h p hp
    have := h p hp
    simp
    exact this
theorem numIn_some {b : Int} {s : List P2} (hs : Stair b s) {L n : Int} (h : numIn s L = some n) : (∃ p ∈ s, p.1 ≤ L ∧ p.2 = n) ∧ ∀ p ∈ s, p.1 ≤ L → n ≤ p.2 := by
  unfold numIn at h
  obtain ⟨ys, e⟩ := List.getLast?_eq_some_iff.mp h
  obtain ⟨f, l2, e1, e2, e3⟩ := List.map_eq_append_iff.mp e
  have h3 : ∃ q, l2 = [q] ∧ q.2 = n := by
    cases l2 with
    | nil => cases e3
    | cons q r =>
      cases r with
      | nil => exact ⟨q, rfl, by simpa using e3⟩
      | cons _ _ => simp at e3
  obtain ⟨q, rfl, hq⟩ := h3
  have mq : q ∈ s.filter fun p => decide (p.1 ≤ L) := by rw [e1]; simp
  rw [List.mem_filter, decide_eq_true_eq] at mq
  refine ⟨⟨q, mq.1, mq.2, hq⟩, fun p hp hL => ?_⟩
  have mp : p ∈ s.filter fun p => decide (p.1 ≤ L) := by rw [List.mem_filter, decide_eq_true_eq]; exact ⟨hp, hL⟩
  have fl : (f ++ [q]).Pairwise Falls := by rw [← e1]; exact hs.fal.filter _
  rw [e1] at mp
  rcases List.mem_append.mp mp with m | m
  · have := ((List.pairwise_append.mp fl).2.2 p m q (by simp)).2
    omega
  · have : p = q := by simpa using m
    rw [this]; omega
/-- the counts that a limit allows -/
theorem al_num {b : Int} {s : List P2} (hs : Stair b s) {c L : Int} : Al s c L ↔ ∃ n, numIn s L = some n ∧ n + c ≤ L := by
  constructor
  · rintro ⟨p, hp, h1, h2⟩
    cases h : numIn s L with
    | none => have := numIn_none.mp h p hp; omega
    | some n =>
      have := (numIn_some hs h).2 p hp h1
      exact ⟨n, rfl, by omega⟩
  · rintro ⟨n, h, h1⟩
    obtain ⟨⟨p, hp, h2, h3⟩, _⟩ := numIn_some hs h
    exact ⟨p, hp, h2, by omega⟩
theorem numIn_bounds {b : Int} {s : List P2} (hs : Stair b s) {L n : Int} (h : numIn s L = some n) : 0 ≤ n ∧ n ≤ L := by
  obtain ⟨⟨p, hp, h2, h3⟩, _⟩ := numIn_some hs h
  have := hs.at_ p hp
  omega
/-- a stair is told by its numbers -/
theorem numIn_cons {p : P2} {r : List P2} {L : Int} (h : p.1 ≤ L) : numIn (p :: r) L = some ((numIn r L).getD p.2) := by
  unfold numIn
  rw [List.filter_cons, if_pos (by rw [decide_eq_true_eq]; exact h), List.map_cons, List.getLast?_cons]
theorem Stair.tail {b : Int} {p : P2} {r : List P2} (h : Stair b (p :: r)) : Stair b r := ⟨fun q hq => h.at_ q (by simp [hq]), (List.pairwise_cons.mp h.fal).2⟩
theorem stair_ext : ∀ {b : Int} {s t : List P2}, Stair b s → Stair b t → (∀ L, 1 ≤ L → L ≤ b → numIn s L = numIn t L) → s = t
  | _, [], [], _, _, _ => rfl
  | b, [], q :: u, _, ht, h => by
    have hq := ht.at_ q (by simp)
    have := h q.1 (by omega) (by omega)
    rw [numIn_cons (Int.le_refl _)] at this
    cases this
  | b, p :: r, [], hs, _, h => by
    have hp := hs.at_ p (by simp)
    have := h p.1 (by omega) (by omega)
    rw [numIn_cons (Int.le_refl _)] at this
    cases this
  | b, p :: r, q :: u, hs, ht, h => by
    have hp := hs.at_ p (by simp)
    have hq := ht.at_ q (by simp)
    have fp := (List.pairwise_cons.mp hs.fal).1
    have fq := (List.pairwise_cons.mp ht.fal).1
    have nr : numIn r p.1 = none := numIn_none.mpr fun x hx => (fp x hx).1
    have nu : numIn u q.1 = none := numIn_none.mpr fun x hx => (fq x hx).1
    have e1 := h p.1 (by omega) (by omega)
    have e2 := h q.1 (by omega) (by omega)
    rw [numIn_cons (Int.le_refl _), nr] at e1
    rw [numIn_cons (p := q) (Int.le_refl _), nu] at e2
    have l1 : ¬ p.1 < q.1 := fun z => by
      rw [show numIn (q :: u) p.1 = none from numIn_none.mpr fun x hx => by
        rcases List.mem_cons.mp hx with e | e
        · rw [e]; exact z
        · have := (fq x e).1; omega] at e1
      cases e1
    have l2 : ¬ q.1 < p.1 := fun z => by
      rw [show numIn (p :: r) q.1 = none from numIn_none.mpr fun x hx => by
        rcases List.mem_cons.mp hx with e | e
        · rw [e]; exact z
        · have := (fp x e).1; omega] at e2
      cases e2
    have e3 : p.1 = q.1 := by omega
    rw [e3, numIn_cons (Int.le_refl _), nu] at e1
    have e4 : p.2 = q.2 := by simpa using e1
    have e5 : p = q := Prod.ext e3 e4
    subst e5
    rw [stair_ext hs.tail ht.tail fun L h1 h2 => ?_]
    by_cases hL : p.1 ≤ L
    · have e6 := h L h1 h2
      rw [numIn_cons hL, numIn_cons hL] at e6
      cases h7 : numIn r L with
      | none =>
        cases h8 : numIn u L with
        | none => rfl
        | some n =>
          rw [h7, h8] at e6
          obtain ⟨⟨x, hx, _, h10⟩, _⟩ := numIn_some ht.tail h8
          have := (fq x hx).2
          simp at e6
          omega
      | some m =>
        cases h8 : numIn u L with
        | none =>
          rw [h7, h8] at e6
          obtain ⟨⟨x, hx, _, h10⟩, _⟩ := numIn_some hs.tail h7
          have := (fp x hx).2
          simp at e6
          omega
        | some n =>
          rw [h7, h8] at e6
          simpa using e6
    · rw [numIn_none.mpr fun x hx => by have := (fp x hx).1; omega, numIn_none.mpr fun x hx => by have := (fq x hx).1; omega]
/-! ### the law's looks -/
/-- the same least limits, the same stair -/
theorem low_tells {b : Int} {s t : List P2} (hs : Stair b s) (ht : Stair b t) (ns : s ≠ []) (nt : t ≠ []) {n : Nat} (hn : b < n) (h : ∀ c : Nat, c < n → lowI s c = lowI t c) : s = t := by
  refine stair_ext hs ht fun L h1 h2 => ?_
  have key : ∀ (u v : List P2), Stair b u → Stair b v → u ≠ [] → v ≠ [] → (∀ c : Nat, c < n → lowI u c = lowI v c) → ∀ m, numIn u L = some m → ∃ k, numIn v L = some k ∧ k ≤ m := fun u v hu hv nu nv hh m hm => by
    obtain ⟨b1, b2⟩ := numIn_bounds hu hm
    obtain ⟨c, hc⟩ := Int.eq_ofNat_of_zero_le (show 0 ≤ L - m by omega)
    have hcn : c < n := by omega
    have a1 : Al u c L := (al_num hu).mpr ⟨m, hm, by omega⟩
    have a2 : Al v c L := by rw [← lowI_le nv, ← hh c hcn, lowI_le nu]; exact a1
    obtain ⟨k, h3, h4⟩ := (al_num hv).mp a2
    exact ⟨k, h3, by omega⟩
  have k1 := key s t hs ht ns nt h
  have k2 := key t s ht hs nt ns fun c hc => (h c hc).symm
  cases e1 : numIn s L with
  | none =>
    cases e2 : numIn t L with
    | none => rfl
    | some m =>
      obtain ⟨k, h3, _⟩ := k2 m e2
      rw [e1] at h3
      cases h3
  | some m =>
    obtain ⟨k, h3, h4⟩ := k1 m e1
    obtain ⟨k', h5, h6⟩ := k2 k h3
    rw [e1] at h5
    cases h5
    rw [h3]
    congr 1
    omega
/-- the counts that a limit allows are the first ones -/
theorem low_le_iff {b : Int} {s : List P2} (hs : Stair b s) (ns : s ≠ []) {c : Nat} {L : Int} : lowI s c ≤ L ↔ (c : Int) < match numIn s L with | some n => L - n + 1 | none => 0 := by
  rw [lowI_le ns, al_num hs]
  cases numIn s L with
  | none => simp
  | some n => simp; omega
/-! ### of two, the greater -/
/-- limits at which one of two falls, from the greater of the firsts on; the greater number at each -/
def greatPs (s t : List P2) (start : Int) (lims : List Int) : List P2 := lims.map fun L => (L, max ((numIn s L).getD 0) ((numIn t L).getD 0))
theorem numIn_anti {b : Int} {s : List P2} (hs : Stair b s) {L M m : Int} (h : numIn s L = some m) (hLM : L ≤ M) : ∃ k, numIn s M = some k ∧ k ≤ m := by
  obtain ⟨⟨p, hp, h1, h2⟩, _⟩ := numIn_some hs h
  cases e : numIn s M with
  | none => have := numIn_none.mp e p hp; omega
  | some k => exact ⟨k, rfl, by have := (numIn_some hs e).2 p hp (by omega); omega⟩
theorem great_al {b : Int} {s t : List P2} (hs : Stair b s) (ht : Stair b t) {start : Int} {lims : List Int} (h1 : ∀ L ∈ lims, start ≤ L) (h2 : ∀ p, p ∈ s ∨ p ∈ t → start ≤ p.1 → p.1 ∈ lims) (h3 : ∃ p ∈ s, p.1 ≤ start) (h4 : ∃ p ∈ t, p.1 ≤ start) (h5 : start ∈ lims)
    (h6 : ∀ L ∈ lims, ∃ p, (p ∈ s ∨ p ∈ t) ∧ p.1 = L) (h7 : ∀ L, L < start → numIn s L = none ∨ numIn t L = none) {c L : Int} :
    Al (greatPs s t start lims) c L ↔ Al s c L ∧ Al t c L := by
  have some_at : ∀ M, start ≤ M → (∃ m, numIn s M = some m) ∧ ∃ k, numIn t M = some k := fun M hM => by
    constructor
    · obtain ⟨p, hp, h⟩ := h3
      cases e : numIn s M with
      | none => have := numIn_none.mp e p hp; omega
      | some m => exact ⟨m, rfl⟩
    · obtain ⟨p, hp, h⟩ := h4
      cases e : numIn t M with
      | none => have := numIn_none.mp e p hp; omega
      | some m => exact ⟨m, rfl⟩
  constructor
  · rintro ⟨q, hq, a1, a2⟩
    obtain ⟨M, hM, rfl⟩ := List.mem_map.mp hq
    obtain ⟨⟨m, hm⟩, k, hk⟩ := some_at M (h1 M hM)
    have a1' : M ≤ L := a1
    have a2' : max ((numIn s M).getD 0) ((numIn t M).getD 0) + c ≤ L := a2
    rw [hm, hk] at a2'
    have a3 : max m k + c ≤ L := a2'
    obtain ⟨m', hm', l1⟩ := numIn_anti hs hm a1'
    obtain ⟨k', hk', l2⟩ := numIn_anti ht hk a1'
    exact ⟨(al_num hs).mpr ⟨m', hm', by omega⟩, (al_num ht).mpr ⟨k', hk', by omega⟩⟩
  · rintro ⟨a1, a2⟩
    obtain ⟨m, hm, l1⟩ := (al_num hs).mp a1
    obtain ⟨k, hk, l2⟩ := (al_num ht).mp a2
    have hL : start ≤ L := by
      rcases Int.lt_or_le L start with z | z
      · rcases h7 L z with e | e
        · rw [hm] at e; cases e
        · rw [hk] at e; cases e
      · exact z
    -- the last corner of each up to L
    obtain ⟨⟨p, hp, p1, p2⟩, pm⟩ := numIn_some hs hm
    obtain ⟨⟨q, hq, q1, q2⟩, qm⟩ := numIn_some ht hk
    -- the greatest limit of all up to L
    have hM : ∃ M ∈ lims, M ≤ L ∧ p.1 ≤ M ∧ q.1 ≤ M := by
      rcases Int.le_total p.1 q.1 with z | z
      · rcases Int.le_total q.1 start with y | y
        · exact ⟨start, h5, hL, by omega, y⟩
        · exact ⟨q.1, h2 q (.inr hq) y, q1, z, Int.le_refl _⟩
      · rcases Int.le_total p.1 start with y | y
        · exact ⟨start, h5, hL, y, by omega⟩
        · exact ⟨p.1, h2 p (.inl hp) y, p1, Int.le_refl _, z⟩
    obtain ⟨M, mM, mL, mp, mq⟩ := hM
    obtain ⟨⟨m', hm'⟩, k', hk'⟩ := some_at M (h1 M mM)
    have e1 := (numIn_some hs hm').2 p hp mp
    have e2 := (numIn_some ht hk').2 q hq mq
    refine ⟨_, List.mem_map.mpr ⟨M, mM, rfl⟩, mL, ?_⟩
    show max ((numIn s M).getD 0) ((numIn t M).getD 0) + c ≤ L
    rw [hm', hk']
    show max m' k' + c ≤ L
    omega
end DL

namespace DL
open PySem PySem.Spec PyProof.Rows L2
def b_is_integer : SS := (sRet (eAnd (eIsi "int" (eVb 0)) (eNot (eIsi "bool" (eVb 0)))))
def φ_is_integer : List D → Sto → Res D := runD 1 b_is_integer
theorem e_is_integer {x0 : D} {S : Sto} {Q : D → Sto → Prop} : Ev (φ_is_integer [x0] S) Q = EvS (b_is_integer [some (.sh x0)] S) (fun _ S => Q .non S) Q (fun _ _ => False) (fun _ _ => False) := ev_runD
def b_is_between : SS := (sRet (eAnd (eCall φ_is_integer (eCons (eV 0) eNil)) (eChain oLe oLe (eVb 1) (eVb 0) (eVb 2))))
def φ_is_between : List D → Sto → Res D := runD 3 b_is_between
theorem e_is_between {x0 x1 x2 : D} {S : Sto} {Q : D → Sto → Prop} : Ev (φ_is_between [x0, x1, x2] S) Q = EvS (b_is_between [some (.sh x0), some (.sh x1), some (.sh x2)] S) (fun _ S => Q .non S) Q (fun _ _ => False) (fun _ _ => False) := ev_runD
def b_is_listed : SS := (sRet (eIsi2 "list" "tuple" (eVb 0)))
def φ_is_listed : List D → Sto → Res D := runD 1 b_is_listed
theorem e_is_listed {x0 : D} {S : Sto} {Q : D → Sto → Prop} : Ev (φ_is_listed [x0] S) Q = EvS (b_is_listed [some (.sh x0)] S) (fun _ S => Q .non S) Q (fun _ _ => False) (fun _ _ => False) := ev_runD
def b_is_pair_of : SS := (sSeq (sIf (eOrT (eNotT (eTru (eCall φ_is_listed (eCons (eV 0) eNil)))) (eTst (eBin oNe (eBlt bLen (eCons (eVb 0) eNil)) (eC (.int 2))))) (sRet (eC (.bl false))) sNil)
    (sRet (eAnd (eCall φ_is_between (eCons (eBin oIx (eVb 0) (eC (.int 0))) (eCons (eC (.int 1)) (eCons (eC (.int 1000000)) eNil)))) (eCall φ_is_between (eCons (eBin oIx (eVb 0) (eC (.int 1))) (eCons (eV 1) (eCons (eV 2) eNil)))))))
def φ_is_pair_of : List D → Sto → Res D := runD 3 b_is_pair_of
theorem e_is_pair_of {x0 x1 x2 : D} {S : Sto} {Q : D → Sto → Prop} : Ev (φ_is_pair_of [x0, x1, x2] S) Q = EvS (b_is_pair_of [some (.sh x0), some (.sh x1), some (.sh x2)] S) (fun _ S => Q .non S) Q (fun _ _ => False) (fun _ _ => False) := ev_runD
def b_is_stair : SS := (sSeq (sIf (eOrT (eNotT (eTru (eCall φ_is_listed (eCons (eV 0) eNil)))) (eNotT (eTru (eBlt bAll (eCons (eLst (eComp (iD (eV 0)) (gN 1) eYes (eCall φ_is_pair_of (eCons (eV 1) (eCons (eC (.int 0)) (eCons (eC (.int 1000000)) eNil)))) [1])) eNil))))) (sRet (eC (.bl false))) sNil)
    (sSeq (sIf (eNotT (eTru (eBlt bAll (eCons (eLst (eComp (iD (eV 0)) (gTp 2 (gsCons (gN 2) (gsCons (gN 3) gsNil))) eYes (eBin oLe (eVb 3) (eVb 2)) [2, 3])) eNil)))) (sRet (eC (.bl false))) sNil)
    (sRet (eBlt bAll (eCons (eLst (eComp (iZi (eV 0) (eSl (eVb 0) (oSo (eC (.int 1))) oNo)) (gTp 2 (gsCons (gN 4) (gsCons (gN 5) gsNil))) eYes (eAnd (eBin oLt (eBin oIx (eVb 4) (eC (.int 0))) (eBin oIx (eVb 5) (eC (.int 0)))) (eBin oGt (eBin oIx (eVb 4) (eC (.int 1))) (eBin oIx (eVb 5) (eC (.int 1))))) [4, 5])) eNil)))))
def φ_is_stair : List D → Sto → Res D := runD 6 b_is_stair
theorem e_is_stair {x0 : D} {S : Sto} {Q : D → Sto → Prop} : Ev (φ_is_stair [x0] S) Q = EvS (b_is_stair [some (.sh x0), none, none, none, none, none] S) (fun _ S => Q .non S) Q (fun _ _ => False) (fun _ _ => False) := ev_runD
def b__law_pen : SS := (sRet (eMu (eDsp (eCons (eLst (eComp (iD (eSl (eVb 0) oNo (oSo (eC (.int 63))))) (gN 1) eYes (eBlt bInt (eCons (eVb 1) eNil)) [1])) (eCons (eC (.int 0)) (eCons (eC (.int 0)) eNil))))))
def φ__law_pen : List D → Sto → Res D := runD 2 b__law_pen
theorem e__law_pen {x0 : D} {S : Sto} {Q : D → Sto → Prop} : Ev (φ__law_pen [x0] S) Q = EvS (b__law_pen [some (.sh x0), none] S) (fun _ S => Q .non S) Q (fun _ _ => False) (fun _ _ => False) := ev_runD
def b__law_draw : SS := (sSeq (sIf (eTst (eBin oGt (eBin oIx (eVb 0) (eC (.int 2))) (eC (.int 0)))) (sSeq (sSet 2 (eBlt bInt (eCons (eBin oIx (eVb 0) (eC (.int 2))) eNil)))
    (sSeq (sStore (eBin oFdiv (eVb 2) (eVb 1)) (eV 0) (eC (.int 2)))
    (sRet (eBin oMod (eBlt bInt (eCons (eVb 2) eNil)) (eVb 1))))) sNil)
    (sSeq (sSet 3 (eBin oIx (eVb 0) (eC (.int 1))))
    (sSeq (sStore (eBin oAdd (eVb 3) (eC (.int 1))) (eV 0) (eC (.int 1)))
    (sSeq (sSet 4 (eBin oAdd (eBin oMul (eC (.int 57793)) (eVb 3)) (eC (.int 31013))))
    (sSeq (sIf (eTst (eBin oNe (eBin oIx (eVb 0) (eC (.int 0))) (eLst (eDsp eNil)))) (sSet 4 (eBin oIx (eBin oIx (eVb 0) (eC (.int 0))) (eBin oMod (eBlt bInt (eCons (eVb 3) eNil)) (eBlt bLen (eCons (eBin oIx (eVb 0) (eC (.int 0))) eNil))))) sNil)
    (sSeq (sIf (eAndT (eTst (eBin oLt (eVb 3) (eBlt bLen (eCons (eBin oIx (eVb 0) (eC (.int 0))) eNil)))) (eTst (eBin oGe (eBlt bAbs (eCons (eVb 4) eNil)) (eBin oPow (eC (.int 10)) (eC (.int 18)))))) (sSeq (sSet 2 (eBin oAdd (eBin oMul (eC (.int 2)) (eBin oSub (eBlt bAbs (eCons (eVb 4) eNil)) (eBin oPow (eC (.int 10)) (eC (.int 18))))) (eBlt bInt (eCons (eBin oLt (eVb 4) (eC (.int 0))) eNil))))
    (sSeq (sStore (eBin oFdiv (eBlt bInt (eCons (eVb 2) eNil)) (eVb 1)) (eV 0) (eC (.int 2)))
    (sRet (eBin oMod (eBlt bInt (eCons (eVb 2) eNil)) (eVb 1))))) sNil)
    (sSeq (sSet 5 (eBin oMod (eBlt bInt (eCons (eBin oPow (eBin oAdd (eBin oAdd (eBin oMod (eBlt bInt (eCons (eVb 4) eNil)) (eC (.int 2147483549))) (eBin oMul (eC (.int 84653)) (eVb 3))) (eC (.int 2203))) (eC (.int 5))) eNil)) (eC (.int 2147483563))))
    (sSeq (sSet 5 (eBin oMod (eBlt bInt (eCons (eBin oPow (eBin oAdd (eBin oAdd (eBin oMul (eVb 5) (eBin oAdd (eBin oMul (eC (.int 2)) (eVb 3)) (eC (.int 2203)))) (eBin oMul (eBin oMul (eC (.int 57793)) (eVb 3)) (eVb 3))) (eC (.int 84653))) (eC (.int 3))) eNil)) (eC (.int 2147483587))))
    (sRet (eBin oMod (eBlt bInt (eCons (eBin oFdiv (eVb 5) (eC (.int 64))) eNil)) (eVb 1)))))))))))
def φ__law_draw : List D → Sto → Res D := runD 6 b__law_draw
theorem e__law_draw {x0 x1 : D} {S : Sto} {Q : D → Sto → Prop} : Ev (φ__law_draw [x0, x1] S) Q = EvS (b__law_draw [some (.sh x0), some (.sh x1), none, none, none, none] S) (fun _ S => Q .non S) Q (fun _ _ => False) (fun _ _ => False) := ev_runD
def b__law_pick : SS := (sRet (eBin oIx (eVb 1) (eCall φ__law_draw (eCons (eV 0) (eCons (eBlt bLen (eCons (eVb 1) eNil)) eNil)))))
def φ__law_pick : List D → Sto → Res D := runD 2 b__law_pick
theorem e__law_pick {x0 x1 : D} {S : Sto} {Q : D → Sto → Prop} : Ev (φ__law_pick [x0, x1] S) Q = EvS (b__law_pick [some (.sh x0), some (.sh x1)] S) (fun _ S => Q .non S) Q (fun _ _ => False) (fun _ _ => False) := ev_runD
def b__law_cut : SS := (sSeq (sSet 1 (eLst (eBltN oSorted (eCons (eLst (eComp (iD (eV 0)) (gTp 2 (gsCons (gN 2) (gsCons (gN 3) gsNil))) eYes (eTup (eCons (eBlt bMax2 (eCons (eVb 2) (eCons (eVb 3) eNil))) (eCons (eV 3) eNil))) [2, 3])) eNil))))
    (sSeq (sNew 4 (eDsp eNil))
    (sSeq (sFor (iD (eV 1)) (gTp 2 (gsCons (gN 2) (gsCons (gN 3) gsNil))) (sIf (eOrT (eTst (eBin oEq (eVb 4) (eLst (eDsp eNil)))) (eTst (eBin oLt (eVb 3) (eBin oIx (eBin oIx (eVb 4) (eNeg (eC (.int 1)))) (eC (.int 1)))))) (sSeq (sIf (eAndT (eTst (eBin oNe (eVb 4) (eLst (eDsp eNil)))) (eTst (eBin oEq (eBin oIx (eBin oIx (eVb 4) (eNeg (eC (.int 1)))) (eC (.int 0))) (eVb 2)))) (sPop 4) sNil)
    (sApp 4 (eTup (eCons (eV 2) (eCons (eV 3) eNil))))) sNil))
    (sRet (eBlt bTuple (eCons (eVb 4) eNil))))))
def φ__law_cut : List D → Sto → Res D := runD 5 b__law_cut
theorem e__law_cut {x0 : D} {S : Sto} {Q : D → Sto → Prop} : Ev (φ__law_cut [x0] S) Q = EvS (b__law_cut [some (.sh x0), none, none, none, none] S) (fun _ S => Q .non S) Q (fun _ _ => False) (fun _ _ => False) := ev_runD
def b__law_by_limits : SS := (sSeq (sNew 2 (eDsp eNil))
    (sSeq (sFor (iRg2 (eC (.int 1)) (eBin oAdd (eVb 1) (eC (.int 1)))) (gN 3) (sSeq (sSet 4 (eLst (eComp (iD (eV 0)) (gTp 2 (gsCons (gN 5) (gsCons (gN 6) gsNil))) (eAndT (eTst (eBin oLe (eVb 5) (eVb 3))) (eTst (eBin oLe (eVb 6) (eVb 3)))) (eV 6) [5, 6])))
    (sApp 2 (eIf (eTst (eBin oNe (eVb 4) (eLst (eDsp eNil)))) (eBlt bMin (eCons (eVb 4) eNil)) (eC .non)))))
    (sFrz 2 (sRet (eV 2)))))
def φ__law_by_limits : List D → Sto → Res D := runD 7 b__law_by_limits
theorem e__law_by_limits {x0 x1 : D} {S : Sto} {Q : D → Sto → Prop} : Ev (φ__law_by_limits [x0, x1] S) Q = EvS (b__law_by_limits [some (.sh x0), some (.sh x1), none, none, none, none, none] S) (fun _ S => Q .non S) Q (fun _ _ => False) (fun _ _ => False) := ev_runD
def b__law_of_limits : SS := (sSeq (sNew 1 (eDsp eNil))
    (sSeq (sFor (iD (eLst (eListEn (eLst (eCatN (eDsp (eCons (eC .non) eNil)) (eBltN bList (eCons (eVb 0) eNil))))))) (gTp 2 (gsCons (gN 2) (gsCons (gN 3) gsNil))) (sIf (eAndT (eTst (eBin oIsNot (eVb 3) (eC .non))) (eAndT (eTst (eBin oLe (eVb 3) (eVb 2))) (eOrT (eTst (eBin oEq (eVb 1) (eLst (eDsp eNil)))) (eTst (eBin oLt (eVb 3) (eBin oIx (eBin oIx (eVb 1) (eNeg (eC (.int 1)))) (eC (.int 1)))))))) (sApp 1 (eTup (eCons (eV 2) (eCons (eV 3) eNil)))) sNil))
    (sRet (eBlt bTuple (eCons (eVb 1) eNil)))))
def φ__law_of_limits : List D → Sto → Res D := runD 4 b__law_of_limits
theorem e__law_of_limits {x0 : D} {S : Sto} {Q : D → Sto → Prop} : Ev (φ__law_of_limits [x0] S) Q = EvS (b__law_of_limits [some (.sh x0), none, none, none] S) (fun _ S => Q .non S) Q (fun _ _ => False) (fun _ _ => False) := ev_runD
def b__law_pairs : SS := (sRet (eLst (eComp (iRg1 (eCall φ__law_pick (eCons (eV 0) (eCons (eLst (eDsp (eCons (eC (.int 0)) (eCons (eC (.int 1)) (eCons (eC (.int 1)) (eCons (eC (.int 2)) (eCons (eC (.int 3)) (eCons (eC (.int 4)) (eCons (eC (.int 5)) eNil))))))))) eNil)))) (gN 2) eYes (eTup (eCons (eBin oAdd (eC (.int 1)) (eCall φ__law_draw (eCons (eV 0) (eCons (eV 1) eNil)))) (eCons (eCall φ__law_draw (eCons (eV 0) (eCons (eBin oAdd (eVb 1) (eC (.int 1))) eNil))) eNil))) [2])))
def φ__law_pairs : List D → Sto → Res D := runD 3 b__law_pairs
theorem e__law_pairs {x0 x1 : D} {S : Sto} {Q : D → Sto → Prop} : Ev (φ__law_pairs [x0, x1] S) Q = EvS (b__law_pairs [some (.sh x0), some (.sh x1), none] S) (fun _ S => Q .non S) Q (fun _ _ => False) (fun _ _ => False) := ev_runD
def b__law_most : SS := (sRet (eBin oAdd (eC (.int 3)) (eBlt bMax (eCons (eLst (eCatN (eDsp (eCons (eC (.int 0)) eNil)) (eComp (iD (eV 0)) (gN 1) (eTst (eBin oGt (eBlt bLen (eCons (eVb 1) eNil)) (eC (.int 0)))) (eBlt bMax (eCons (eLst (eComp (iD (eV 1)) (gN 2) eYes (eBlt bMax (eCons (eVb 2) eNil)) [2])) eNil)) [1]))) eNil))))
def φ__law_most : List D → Sto → Res D := runD 3 b__law_most
theorem e__law_most {x0 : D} {S : Sto} {Q : D → Sto → Prop} : Ev (φ__law_most [x0] S) Q = EvS (b__law_most [some (.sh x0), none, none] S) (fun _ S => Q .non S) Q (fun _ _ => False) (fun _ _ => False) := ev_runD
def b__law_stair : SS := (sSeq (sSet 2 (eCall φ__law_pairs (eCons (eV 0) (eCons (eV 1) eNil))))
    (sRet (eCall φ__law_of_limits (eCons (eCall φ__law_by_limits (eCons (eV 2) (eCons (eCall φ__law_most (eCons (eLst (eDsp (eCons (eV 2) eNil))) eNil)) eNil))) eNil))))
def φ__law_stair : List D → Sto → Res D := runD 3 b__law_stair
theorem e__law_stair {x0 x1 : D} {S : Sto} {Q : D → Sto → Prop} : Ev (φ__law_stair [x0, x1] S) Q = EvS (b__law_stair [some (.sh x0), some (.sh x1), none] S) (fun _ S => Q .non S) Q (fun _ _ => False) (fun _ _ => False) := ev_runD
def b__law_some_stair : SS := (sSeq (sSet 2 (eCall φ__law_stair (eCons (eV 0) (eCons (eV 1) eNil))))
    (sRet (eIf (eTst (eBin oNe (eVb 2) (eTup eNil))) (eV 2) (eTup (eCons (eTup (eCons (eBin oAdd (eC (.int 1)) (eCall φ__law_draw (eCons (eV 0) (eCons (eV 1) eNil)))) (eCons (eC (.int 1)) eNil))) eNil)))))
def φ__law_some_stair : List D → Sto → Res D := runD 3 b__law_some_stair
theorem e__law_some_stair {x0 x1 : D} {S : Sto} {Q : D → Sto → Prop} : Ev (φ__law_some_stair [x0, x1] S) Q = EvS (b__law_some_stair [some (.sh x0), some (.sh x1), none] S) (fun _ S => Q .non S) Q (fun _ _ => False) (fun _ _ => False) := ev_runD
def b__law_is_so : SS := (sSeq (sIf (eNotT (eTru (eIsi2 "list" "tuple" (eVb 0)))) (sRet (eC (.bl false))) sNil)
    (sSeq (sSet 1 (eC .non))
    (sSeq (sFor (iD (eV 0)) (gN 2) (sSeq (sIf (eOrT (eNotT (eTru (eIsi2 "list" "tuple" (eVb 2)))) (eOrT (eTst (eBin oNe (eBlt bLen (eCons (eVb 2) eNil)) (eC (.int 2)))) (eTst (eBin oNe (eLst (eComp (iD (eV 2)) (gN 3) (eOrT (eNotT (eTru (eIsi "int" (eVb 3)))) (eTru (eIsi "bool" (eVb 3)))) (eC (.int 1)) [3])) (eLst (eDsp eNil)))))) (sRet (eC (.bl false))) sNil)
    (sSeq (sIf (eOrT (eNotT (eTst (eChain oLe oLe (eC (.int 1)) (eBin oIx (eVb 2) (eC (.int 0))) (eBin oPow (eC (.int 10)) (eC (.int 6)))))) (eNotT (eTst (eChain oLe oLe (eC (.int 0)) (eBin oIx (eVb 2) (eC (.int 1))) (eBin oIx (eVb 2) (eC (.int 0))))))) (sRet (eC (.bl false))) sNil)
    (sSeq (sIf (eAndT (eTst (eBin oIsNot (eVb 1) (eC .non))) (eOrT (eTst (eBin oLe (eBin oIx (eVb 2) (eC (.int 0))) (eBin oIx (eVb 1) (eC (.int 0))))) (eTst (eBin oGe (eBin oIx (eVb 2) (eC (.int 1))) (eBin oIx (eVb 1) (eC (.int 1))))))) (sRet (eC (.bl false))) sNil)
    (sSet 1 (eV 2))))))
    (sRet (eC (.bl true))))))
def φ__law_is_so : List D → Sto → Res D := runD 4 b__law_is_so
theorem e__law_is_so {x0 : D} {S : Sto} {Q : D → Sto → Prop} : Ev (φ__law_is_so [x0] S) Q = EvS (b__law_is_so [some (.sh x0), none, none, none] S) (fun _ S => Q .non S) Q (fun _ _ => False) (fun _ _ => False) := ev_runD
def b__law_bent : SS := (sSeq (sPar 2 3 (eCons (eMu (eComp (iD (eV 1)) (gN 4) eYes (eMu (eBltN bList (eCons (eVb 4) eNil))) [4])) (eCons (eCall φ__law_draw (eCons (eV 0) (eCons (eBlt bLen (eCons (eVb 1) eNil)) eNil))) eNil)))
    (sSeq (sSet 5 (eCall φ__law_draw (eCons (eV 0) (eCons (eC (.int 12)) eNil))))
    (sSeq (sIf (eTst (eBin oLt (eVb 5) (eC (.int 4)))) (sStore (eCall φ__law_pick (eCons (eV 0) (eCons (eLst (eDsp (eCons (eC (.int 0)) (eCons (eNeg (eC (.int 1))) (eCons (eBin oAdd (eBin oIx (eBin oIx (eVb 2) (eVb 3)) (eC (.int 0))) (eC (.int 1))) (eCons (eBin oIx (eBin oIx (eVb 2) (eVb 3)) (eC (.int 1))) (eCons (eBin oPow (eC (.int 10)) (eC (.int 6))) (eCons (eBin oAdd (eBin oPow (eC (.int 10)) (eC (.int 6))) (eC (.int 1))) (eCons (eBin oIx (eBin oIx (eVb 2) (eVb 3)) (eC (.int 0))) eNil))))))))) eNil))) (eBin oIx (eVb 2) (eVb 3)) (eBin oMod (eBlt bInt (eCons (eVb 5) eNil)) (eC (.int 2)))) (sIf (eTst (eBin oEq (eVb 5) (eC (.int 4)))) (sSet 2 (eLst (eRev (eVb 2)))) (sIf (eTst (eBin oEq (eVb 5) (eC (.int 5)))) (sSet 2 (eLst (eCatM (eV 2) (eDsp (eCons (eBin oIx (eVb 2) (eVb 3)) eNil))))) (sIf (eTst (eBin oEq (eVb 5) (eC (.int 6)))) (sStore (eCall φ__law_pick (eCons (eV 0) (eCons (eLst (eDsp (eCons (eC (.bl true)) (eCons (eC .non) (eCons (eC (.str "1")) (eCons (eTup (eCons (eC (.int 1)) eNil)) (eCons (eC (.bl false)) (eCons (eLst (eDsp eNil)) eNil)))))))) eNil))) (eBin oIx (eVb 2) (eVb 3)) (eCall φ__law_draw (eCons (eV 0) (eCons (eC (.int 2)) eNil)))) (sIf (eTst (eBin oEq (eVb 5) (eC (.int 7)))) (sStore (eCall φ__law_pick (eCons (eV 0) (eCons (eLst (eDsp (eCons (eLst (eCatM (eBin oIx (eVb 2) (eVb 3)) (eDsp (eCons (eC (.int 0)) eNil)))) (eCons (eLst (eSlS (eBin oIx (eVb 2) (eVb 3)) oNo (oSo (eC (.int 1))))) (eCons (eC .non) (eCons (eC (.int 5)) (eCons (eC (.str "ab")) (eCons eDct0 (eCons (eDctK [((eC (.int 1)), (eC (.int 0))), ((eC (.int 2)), (eC (.int 0)))]) eNil))))))))) eNil))) (eV 2) (eV 3)) (sIf (eTst (eBin oEq (eVb 5) (eC (.int 8)))) (sRetF 1 4 (eCall φ__law_pick (eCons (eV 0) (eCons (eLst (eDsp (eCons (eC .non) (eCons (eC (.int 5)) (eCons (eC (.str "stair")) (eCons eDct0 (eCons (eDct1T (eCons (eC (.int 5)) (eCons (eC (.int 1)) eNil)) (eC (.int 0))) (eCons (eC (.bl true)) (eCons (eTup (eCons (eC (.str "a")) (eCons (eC (.str "b")) eNil))) (eCons (eLst (eDsp (eCons (eTup (eCons (eC (.int 1)) (eCons (eC (.int 0)) eNil))) (eCons (eC .non) eNil)))) eNil)))))))))) eNil)))) (sIf (eTst (eBin oEq (eVb 5) (eC (.int 9)))) (sIns (eV 2) (eV 3) (eLst (eDsp (eCons (eBin oIx (eBin oIx (eVb 2) (eVb 3)) (eC (.int 0))) (eCons (eBin oAdd (eBin oIx (eBin oIx (eVb 2) (eVb 3)) (eC (.int 1))) (eC (.int 1))) eNil))))) (sIf (eTst (eBin oEq (eVb 5) (eC (.int 10)))) (sSet 2 (eLst (eCatM (eV 2) (eDsp (eCons (eLst (eDsp (eCons (eBin oAdd (eBin oAdd (eBin oIx (eBin oIx (eVb 2) (eNeg (eC (.int 1)))) (eC (.int 0))) (eC (.int 1))) (eCall φ__law_draw (eCons (eV 0) (eCons (eC (.int 2)) eNil)))) (eCons (eBlt bMax2 (eCons (eC (.int 0)) (eCons (eBin oSub (eBin oIx (eBin oIx (eVb 2) (eNeg (eC (.int 1)))) (eC (.int 1))) (eCall φ__law_draw (eCons (eV 0) (eCons (eC (.int 2)) eNil)))) eNil))) eNil)))) eNil))))) sNil))))))))
    (sRetF 1 4 (eV 2)))))
def φ__law_bent : List D → Sto → Res D := runDm 1 6 b__law_bent
theorem e__law_bent {x0 x1 : D} {S : Sto} {Q : D → Sto → Prop} (h : S.length = 1) : Ev (φ__law_bent [x0, x1] S) Q = EvS (b__law_bent [some (.sh x0), some (.sh x1), none, none, none, none] S) (fun _ S => Q .non S) Q (fun _ _ => False) (fun _ _ => False) := by unfold φ__law_bent runDm; rw [if_pos h]; exact ev_runD
def b_law : SS := (sSeq (sSet 1 (eCall φ__law_pen (eCons (eV 0) eNil)))
    (sSeq (sFor (iRg1 (eC (.int 30))) (gN 2) (sSeq (sSet 3 (eCall φ__law_some_stair (eCons (eV 1) (eCons (eCall φ__law_pick (eCons (eV 1) (eCons (eLst (eDsp (eCons (eC (.int 3)) (eCons (eC (.int 6)) (eCons (eC (.int 12)) eNil))))) eNil))) eNil))))
    (sSeq (sIf (eTst (eBin oEq (eCall φ__law_draw (eCons (eV 1) (eCons (eC (.int 3)) eNil))) (eC (.int 0)))) (sSet 3 (eCall φ__law_cut (eCons (eLst (eComp (iD (eV 3)) (gTp 2 (gsCons (gN 4) (gsCons (gN 5) gsNil))) eYes (eTup (eCons (eBin oSub (eBin oAdd (eVb 4) (eBin oPow (eC (.int 10)) (eC (.int 6)))) (eC (.int 60))) (eCons (eBin oAdd (eVb 5) (eCall φ__law_pick (eCons (eV 1) (eCons (eLst (eDsp (eCons (eC (.int 0)) (eCons (eBin oPow (eC (.int 10)) (eC (.int 5))) eNil)))) eNil)))) eNil))) [4, 5])) eNil))) sNil)
    (sSeq (sIf (eOrT (eTst (eBin oIsNotB (eCall φ_is_stair (eCons (eV 3) eNil)) (eC (.bl true)))) (eTst (eBin oIsNotB (eCallK φ_is_stair 0 1 [0] eNil (eCons (eLst (eComp (iD (eV 3)) (gN 6) eYes (eLst (eBltN bList (eCons (eVb 6) eNil))) [6])) eNil)) (eC (.bl true))))) (sRet (eC (.bl false))) sNil)
    (sSeq (sSet 7 (eCall φ__law_bent (eCons (eV 1) (eCons (eV 3) eNil))))
    (sIf (eTst (eBin oNe (eBlt bReprB (eCons (eCall φ_is_stair (eCons (eV 7) eNil)) eNil)) (eBlt bReprB (eCons (eCall φ__law_is_so (eCons (eV 7) eNil)) eNil)))) (sRet (eC (.bl false))) sNil))))))
    (sRet (eAnd (eBin oIsB (eCall φ_is_stair (eCons (eTup eNil) eNil)) (eC (.bl true))) (eAnd (eBin oIsB (eCall φ_is_stair (eCons (eLst (eDsp eNil)) eNil)) (eC (.bl true))) (eAnd (eBin oIsB (eCall φ_is_stair (eCons (eTup (eCons (eTup (eCons (eC (.int 1)) (eCons (eC (.int 0)) eNil))) eNil)) eNil)) (eC (.bl true))) (eAnd (eBin oIsB (eCall φ_is_stair (eCons (eTup (eCons (eTup (eCons (eC (.int 1)) (eCons (eC (.int 1)) eNil))) eNil)) eNil)) (eC (.bl true))) (eBin oIsB (eCall φ_is_stair (eCons (eTup (eCons (eTup (eCons (eC (.int 1)) (eCons (eC (.int 2)) eNil))) eNil)) eNil)) (eC (.bl false))))))))))
def φ_law : List D → Sto → Res D := runD 8 b_law
theorem e_law {x0 : D} {S : Sto} {Q : D → Sto → Prop} : Ev (φ_law [x0] S) Q = EvS (b_law [some (.sh x0), none, none, none, none, none, none, none] S) (fun _ S => Q .non S) Q (fun _ _ => False) (fun _ _ => False) := ev_runD
end DL

namespace DL
open PySem PySem.Spec PyProof.Rows L2
/-! the pen's parts, with whatever stands behind it -/
section
variable {a b c d : D} {R S : Sto} {env : Env} {f : EE} {Q : D → Sto → Prop} {nx bk ct : Env → Sto → Prop} {rt : D → Sto → Prop}
@[simp ↓ high] theorem muR_0 : Ev (oIx (.mu 0) (.int 0) ([a, b, c] :: R)) Q = Q a ([a, b, c] :: R) := Ev.of rfl
@[simp ↓ high] theorem muR_1 : Ev (oIx (.mu 0) (.int 1) ([a, b, c] :: R)) Q = Q b ([a, b, c] :: R) := Ev.of rfl
@[simp ↓ high] theorem muR_2 : Ev (oIx (.mu 0) (.int 2) ([a, b, c] :: R)) Q = Q c ([a, b, c] :: R) := Ev.of rfl
def withPen1 (d : D) (S : Sto) (k : Sto → Prop) : Prop := match S with | [a, _, c] :: R => k ([a, d, c] :: R) | _ => False
def withPen2 (d : D) (S : Sto) (k : Sto → Prop) : Prop := match S with | [a, b, _] :: R => k ([a, b, d] :: R) | _ => False
@[simp ↓] theorem wp1 {k : Sto → Prop} : withPen1 d ([a, b, c] :: R) k = k ([a, d, c] :: R) := rfl
@[simp ↓] theorem wp2 {k : Sto → Prop} : withPen2 d ([a, b, c] :: R) k = k ([a, b, d] :: R) := rfl
theorem es_pen1 (h : Ev (f (some (.sh (.mu 0)) :: env) S) fun d S => withPen1 d S fun S => nx (some (.sh (.mu 0)) :: env) S) : EvS (sStore f (eV 0) (eC (.int 1)) (some (.sh (.mu 0)) :: env) S) nx rt bk ct := by
  show EvS (Res.bind _ _) nx rt bk ct
  rw [evs_bind]
  refine Ev.imp h fun d S q => ?_
  unfold withPen1 at q
  split at q
  · exact ⟨_, _, rfl, q⟩
  · exact q.elim
theorem es_pen2 (h : Ev (f (some (.sh (.mu 0)) :: env) S) fun d S => withPen2 d S fun S => nx (some (.sh (.mu 0)) :: env) S) : EvS (sStore f (eV 0) (eC (.int 2)) (some (.sh (.mu 0)) :: env) S) nx rt bk ct := by
  show EvS (Res.bind _ _) nx rt bk ct
  rw [evs_bind]
  refine Ev.imp h fun d S q => ?_
  unfold withPen2 at q
  split at q
  · exact ⟨_, _, rfl, q⟩
  · exact q.elim
end
/-! ### the pen -/
/-- the pen, and behind it what else changes -/
def PenR (R : Sto) (n : Int) (S : Sto) : Prop := ∃ (cells : List Int) (t rest : Int), S = [.lst (cells.map .int), .int t, .int rest] :: R ∧ 0 ≤ t ∧ t ≤ n ∧ 0 ≤ rest
abbrev PenOk (n : Int) (S : Sto) : Prop := PenR [] n S
theorem ne_nilI (cells : List Int) (S : Sto) (Q : D → Sto → Prop) : Ev (oNe (.lst (cells.map .int)) (.lst []) S) Q = Q (.bl (!decide (cells = []))) S := (eqE_lst eqE_int).oNe (by decide) cells [] S Q
theorem ne_nil0 (S : Sto) (Q : D → Sto → Prop) : Ev (oNe (.lst []) (.lst []) S) Q = Q (.bl false) S := (eqE_lst eqE_int).oNe (by decide) [] [] S Q
theorem atI_mod (cells : List Int) (hc : cells ≠ []) (t : Int) : ∃ c : Int, atI (cells.map D.int) (t % cells.length) = some (.int c) := by
  have hl : 0 < cells.length := List.length_pos_iff.mpr hc
  have h0 : 0 ≤ t % (cells.length : Int) := Int.emod_nonneg _ (by omega)
  have h1 : t % (cells.length : Int) < cells.length := Int.emod_lt_of_pos _ (by omega)
  obtain ⟨j, hj⟩ := Int.eq_ofNat_of_zero_le h0
  rw [hj] at h1 ⊢
  have hj' : j < cells.length := by omega
  exact ⟨cells[j], atI_nat (by rw [List.getElem?_map, List.getElem?_eq_getElem hj']; rfl)⟩
theorem mix_bound {m t : Int} (h0 : 0 ≤ m) (h1 : m < 2147483563) (ht : 0 ≤ t) (hn : t < 1048576) : (m * (2 * t + 2203) + 57793 * t * t + 84653).natAbs < 2 ^ 64 := by
  have e1 : 0 ≤ m * (2 * t + 2203) := Int.mul_nonneg h0 (by omega)
  have e2 : m * (2 * t + 2203) ≤ 2147483563 * 2099355 := Int.mul_le_mul (by omega) (by omega) (by omega) (by omega)
  have e3 : 0 ≤ 57793 * t * t := Int.mul_nonneg (by omega) ht
  have e4 : 57793 * t * t ≤ (57793 * 1048576) * 1048576 := Int.mul_le_mul (by omega) (by omega) (by omega) (by omega)
  generalize m * (2 * t + 2203) = x at *
  generalize 57793 * t * t = y at *
  omega
/-- the last part of a draw -/
theorem pow_b {m t : Int} {S : Sto} {Q : D → Sto → Prop} (h0 : 0 ≤ m) (h1 : m < 2147483563) (ht : 0 ≤ t) (hn : t < 1048576) : Ev (oPow (.int (m * (2 * t + 2203) + 57793 * t * t + 84653)) (.int 3) S) Q = Q (.int ((m * (2 * t + 2203) + 57793 * t * t + 84653) ^ 3)) S := ev_oPow ⟨by decide, by decide, mix_bound h0 h1 ht hn⟩
theorem pow_a {c t : Int} {S : Sto} {Q : D → Sto → Prop} (ht : 0 ≤ t) (hn : t < 1048576) : Ev (oPow (.int (c % 2147483549 + 84653 * t + 2203)) (.int 5) S) Q = Q (.int ((c % 2147483549 + 84653 * t + 2203) ^ 5)) S := ev_oPow ⟨by decide, by decide, by omega⟩
theorem draw_ev {n many : Int} {R S : Sto} (h : PenR R n S) (hn : n < 1048576) (h1 : 0 < many) (h2 : many < 1073741824) : Ev (φ__law_draw [.mu 0, .int many] S) fun d S' => ∃ x, d = .int x ∧ 0 ≤ x ∧ x < many ∧ PenR R (n + 1) S' := by
  obtain ⟨cells, t, rest, rfl, ht, htn, hr⟩ := h
  rw [e__law_draw]
  unfold b__law_draw
  by_cases hp : 0 < rest
  · simp only [↓es_seq, ↓es_if, ↓ev_eTst, ↓ev_eBin, ↓ev_eVbs, ↓ev_eVb0, ↓ev_eC, ↓muR_2, ↓ev_oGt, hp, decide_true, if_true, ↓es_set, ↓ev_eBlt, ↓ev_eCons, ↓ev_eNil, ↓ev_intI, ↓ws_0, ↓ws_s]
    refine es_pen2 ?_
    simp only [↓ev_eBin, ↓ev_eVbs, ↓ev_eVb0, ↓ev_oFdiv ⟨h1, h2⟩, ↓wp2, ↓es_ret, ↓ev_eBlt, ↓ev_eCons, ↓ev_eNil, ↓ev_intI, ↓ev_oMod h1]
    exact ⟨_, rfl, Int.emod_nonneg _ (by omega), Int.emod_lt_of_pos _ h1, cells, t, rest / many, rfl, ht, by omega, Int.ediv_nonneg hr (by omega)⟩
  · have htl : t < 1048576 := by omega
    have fin : ∀ x S', S' = [D.lst (cells.map .int), .int (t + 1), .int rest] :: R → 0 ≤ x % many ∧ x % many < many ∧ PenR R (n + 1) S' := fun x S' e => ⟨Int.emod_nonneg _ (by omega), Int.emod_lt_of_pos _ h1, cells, t + 1, rest, e, by omega, by omega, hr⟩
    simp only [↓es_seq, ↓es_if, ↓ev_eTst, ↓ev_eBin, ↓ev_eVbs, ↓ev_eVb0, ↓ev_eC, ↓muR_2, ↓muR_1, ↓ev_oGt, hp, decide_false, Bool.false_eq_true, if_false, ↓es_nil, ↓es_set, ↓ws_0, ↓ws_s]
    refine es_pen1 ?_
    have h64 : (-(2 ^ 64) < (57793 : Int) ∧ (57793 : Int) < 2 ^ 64) ∨ (-(2 ^ 64) < t ∧ t < 2 ^ 64) := .inl (by omega)
    simp only [↓ev_eBin, ↓ev_eVbs, ↓ev_eVb0, ↓ev_eC, ↓ev_oAdd, ↓wp1, ↓es_set, ↓ev_oMul h64, ↓ws_0, ↓ws_s, ↓es_if, ↓ev_eTst, ↓muR_0, ↓ev_eLst, ↓ev_eDsp, ↓ev_eNil, ↓ne_nilI]
    refine ⟨by decide, ?_⟩
    by_cases hc : cells = []
    · subst hc
      have h3 : ¬ t < 0 := by omega
      simp (disch := omega) [↓ne_nil0, ↓ne_nilI, ↓ev_oMul, ↓ev_oMod, ↓ev_oFdiv, ↓pow_a, ↓pow_b, h3]
      exact fin _ _ rfl
    · obtain ⟨c, hat⟩ := atI_mod cells hc t
      have hl : 0 < (cells.length : Int) := by have := List.length_pos_iff.mpr hc; omega
      by_cases hb : t < cells.length
      · by_cases hd : 1000000000000000000 ≤ (if c < 0 then -c else c)
        · simp (disch := omega) [↓ne_nilI, hc, hb, hd, ↓ev_ixL hat, ↓ev_oMul, ↓ev_oMod, ↓ev_oFdiv, -es_store2]
          refine es_pen2 ?_
          simp (disch := omega) [↓ev_oFdiv, ↓ev_oMod]
          refine ⟨Int.emod_nonneg _ (by omega), Int.emod_lt_of_pos _ h1, cells, t + 1, _, rfl, by omega, by omega, Int.ediv_nonneg ?_ (by omega)⟩
          split <;> omega
        · simp (disch := omega) [↓ne_nilI, hc, hb, hd, ↓ev_ixL hat, ↓ev_oMul, ↓ev_oMod, ↓ev_oFdiv, ↓pow_a, ↓pow_b]
          exact fin _ _ rfl
      · simp (disch := omega) [↓ne_nilI, hc, hb, ↓ev_ixL hat, ↓ev_oMul, ↓ev_oMod, ↓ev_oFdiv, ↓pow_a, ↓pow_b]
        exact fin _ _ rfl
end DL

namespace DL
open PySem PySem.Spec PyProof.Rows L2
section
variable {S R : Sto} {Q : D → Sto → Prop} {n : Int}
def dStair (s : List P2) : D := .tup (s.map dPair)
theorem eq_nilP (f : List P2) (Q : D → Sto → Prop) : Ev (oEq (.lst (f.map dPair)) (.lst []) S) Q = Q (.bl (decide (f = []))) S := (eqE_lst eqE_pair).oEq (by decide) f [] S Q
theorem ne_nilP (f : List P2) (Q : D → Sto → Prop) : Ev (oNe (.lst (f.map dPair)) (.lst []) S) Q = Q (.bl (!decide (f = []))) S := (eqE_lst eqE_pair).oNe (by decide) f [] S Q
theorem eq_snocP (f : List P2) (q : P2) (Q : D → Sto → Prop) : Ev (oEq (.lst (f.map dPair ++ [dPair q])) (.lst []) S) Q = Q (.bl false) S := by
  have := eq_nilP (S := S) (f ++ [q]) Q
  rw [List.map_append] at this
  rw [show (f.map dPair ++ [dPair q]) = f.map dPair ++ [q].map dPair from rfl, this]
  simp
theorem corner_sort {ps : List P2} {Q : List D → Sto → Prop} : Ev (oSorted [.lst (ps.map fun p => dPair (max p.1 p.2, p.2))] S) Q = Q ((cornersOf ps).map dPair) S := by
  rw [show (ps.map fun p => dPair (max p.1 p.2, p.2)) = (ps.map fun p => (max p.1 p.2, p.2)).map dPair by rw [List.map_map]; rfl, ev_sortP]
  rfl
theorem fold_snoc (pre : List P2) (x : P2) : (pre ++ [x]).foldl cutStep [] = cutStep (pre.foldl cutStep []) x := by rw [List.foldl_append]; rfl
theorem opt_non : dOpt none = .non := rfl
theorem opt_int (i : Int) : dOpt (some i) = .int i := rfl
theorem zip_falls : ∀ {s : List P2}, s.Pairwise Falls → ∀ q ∈ s.zip (s.drop 1), Falls q.1 q.2
  | [], _, q, hq => absurd hq (by simp)
  | [p], _, q, hq => absurd hq (by simp)
  | p :: r :: u, h, q, hq => by
    rw [List.pairwise_cons] at h
    have hq' : q ∈ (p, r) :: (r :: u).zip ((r :: u).drop 1) := by simpa using hq
    rcases List.mem_cons.mp hq' with e | e
    · rw [e]; exact h.1 r (by simp)
    · exact zip_falls h.2 q e
theorem eqE_stair : EqE dStair 2 := eqE_tup eqE_pair
theorem eq_emptyT (s : List P2) (Q : D → Sto → Prop) : Ev (oEq (dStair s) (.tup []) S) Q = Q (.bl (decide (s = []))) S := eqE_stair.oEq (by decide) s [] S Q
theorem ne_emptyT (s : List P2) (Q : D → Sto → Prop) : Ev (oNe (dStair s) (.tup []) S) Q = Q (.bl (!decide (s = []))) S := eqE_stair.oNe (by decide) s [] S Q
theorem PenR.mono {n m : Int} {S : Sto} (h : PenR R n S) (hm : n ≤ m) : PenR R m S := by
  obtain ⟨c, t, r, e, h1, h2, h3⟩ := h
  exact ⟨c, t, r, e, h1, by omega, h3⟩
theorem draw_k {n many : Int} {S : Sto} {Q : D → Sto → Prop} (h : PenR R n S) (hn : n < 1048576) (h1 : 0 < many) (h2 : many < 1073741824) (q : ∀ x S', 0 ≤ x → x < many → PenR R (n + 1) S' → Q (.int x) S') : Ev (φ__law_draw [.mu 0, .int many] S) Q :=
  Ev.imp (draw_ev h hn h1 h2) fun d S' ⟨x, e, a, b, p⟩ => by rw [e]; exact q x S' a b p
theorem pick_k {ds : List D} (h : PenR R n S) (hn : n < 1048576) (h0 : ds ≠ []) (hl : ds.length < 1000) (q : ∀ d S', d ∈ ds → PenR R (n + 1) S' → Q d S') : Ev (φ__law_pick [.mu 0, .lst ds] S) Q := by
  rw [e__law_pick]
  unfold b__law_pick
  have hp := List.length_pos_iff.mpr h0
  simp only [↓es_ret, ↓ev_eBin, ↓ev_eVbs, ↓ev_eVb0, ↓ev_eCall, ↓ev_eCons, ↓ev_eV0, ↓ev_eBlt, ↓ev_eNil, ↓ev_lenL]
  refine draw_k h hn (by omega) (by omega) fun x S' x0 x1 p => ?_
  obtain ⟨j, rfl⟩ := Int.eq_ofNat_of_zero_le x0
  have hj : j < ds.length := by omega
  rw [ev_ixL (atI_nat (List.getElem?_eq_getElem hj))]
  exact q _ _ (List.getElem_mem hj) p
theorem forall_dec {γ : Type} {f : γ → D} {P : γ → Prop} : ∀ {ys : List D}, (∀ y ∈ ys, ∃ x, y = f x ∧ P x) → ∃ xs : List γ, ys = xs.map f ∧ ∀ x ∈ xs, P x
  | [], _ => ⟨[], rfl, fun x hx => absurd hx (by simp)⟩
  | y :: ys, h => by
    obtain ⟨x, e, p⟩ := h y (by simp)
    obtain ⟨xs, e2, p2⟩ := forall_dec (ys := ys) fun z hz => h z (by simp [hz])
    refine ⟨x :: xs, by rw [e, e2]; rfl, fun z hz => ?_⟩
    rcases List.mem_cons.mp hz with r | r
    · rw [r]; exact p
    · exact p2 z r
theorem pairs_k {m : Int} (m1 : 1 ≤ m) (m2 : m ≤ 1000) (h : PenR R n S) (hn : n < 1000000) (q : ∀ (ps : List P2) (S' : Sto), ps.length ≤ 5 → (∀ p ∈ ps, 1 ≤ p.1 ∧ p.1 ≤ m ∧ 0 ≤ p.2 ∧ p.2 ≤ m) → PenR R (n + 11) S' → Q (.lst (ps.map dPair)) S') : Ev (φ__law_pairs [.mu 0, .int m] S) Q := by
  rw [e__law_pairs]
  unfold b__law_pairs
  simp only [↓es_ret, ↓ev_eLst, ↓ev_eComp, ↓ev_iRg1, ↓ev_eCall, ↓ev_eCons, ↓ev_eV0, ↓ev_eDsp, ↓ev_eC, ↓ev_eNil]
  refine ⟨by decide, ?_⟩
  refine pick_k h (by omega) (by simp) (by simp) fun d S1 hd p1 => ?_
  have hk : ∃ k : Nat, d = .int (k : Int) ∧ k ≤ 5 := by
    simp only [List.mem_cons, List.not_mem_nil, or_false] at hd
    rcases hd with rfl | rfl | rfl | rfl | rfl | rfl | rfl
    · exact ⟨0, rfl, by omega⟩
    · exact ⟨1, rfl, by omega⟩
    · exact ⟨1, rfl, by omega⟩
    · exact ⟨2, rfl, by omega⟩
    · exact ⟨3, rfl, by omega⟩
    · exact ⟨4, rfl, by omega⟩
    · exact ⟨5, rfl, by omega⟩
  obtain ⟨k, rfl, hk⟩ := hk
  refine ⟨by omega, ?_⟩
  simp only [↓ww_s, ↓ww_0, ↓ws_s, ↓ws_0]
  unfold rangeD
  refine Ev.imp (compGo_st (fun i : Nat => D.int (0 + (i : Int))) (fun j S => PenR R (n + 1 + 2 * (j : Int)) S) (fun _ y => ∃ p : P2, y = dPair p ∧ 1 ≤ p.1 ∧ p.1 ≤ m ∧ 0 ≤ p.2 ∧ p.2 ≤ m) (List.range (k : Int).toNat) 0 S1 (fun x hx j S2 hj p2 => ?_) (p1.mono (by omega))) fun ys S2 ⟨p2, hl, hy⟩ => ?_
  · rw [List.length_range] at hj
    simp only [↓wg_n, ↓ws_0, ↓ws_s, ↓ev_eTup, ↓ev_eCons, ↓ev_eBin, ↓ev_eC, ↓ev_eCall, ↓ev_eV0, ↓ev_eVs, ↓ev_eNil]
    refine draw_k p2 (by omega) (by omega) (by omega) fun a S3 a0 a1 p3 => ?_
    simp only [↓ev_oAdd, ↓ev_eVbs, ↓ev_eVb0]
    refine draw_k p3 (by omega) (by omega) (by omega) fun c S4 c0 c1 p4 => ?_
    exact ⟨by show 2 ≤ 1000; decide, p4.mono (by omega), (1 + a, c), rfl, by omega, by omega, by omega, by omega⟩
  · rw [List.length_range] at p2 hl
    obtain ⟨ps, e, hps⟩ := forall_dec (f := dPair) (P := fun p : P2 => 1 ≤ p.1 ∧ p.1 ≤ m ∧ 0 ≤ p.2 ∧ p.2 ≤ m) fun y hyy => by
      obtain ⟨_, _, p, e, h⟩ := hy y hyy
      exact ⟨p, e, h⟩
    subst e
    rw [List.length_map] at hl
    exact q ps S2 (by omega) hps (p2.mono (by omega))
theorem ne_ints (ns : List Int) (Q : D → Sto → Prop) : Ev (oNe (.lst (ns.map .int)) (.lst []) S) Q = Q (.bl (!decide (ns = []))) S := (eqE_lst eqE_int).oNe (by decide) ns [] S Q
theorem foldl_min_mem : ∀ (ns : List Int) (n : Int), ns.foldl min n = n ∨ ns.foldl min n ∈ ns
  | [], n => .inl rfl
  | x :: ns, n => by
    rw [List.foldl_cons]
    rcases foldl_min_mem ns (min n x) with h | h
    · rw [h]
      rcases Int.le_total n x with z | z
      · exact .inl (by omega)
      · exact .inr (by rw [show min n x = x by omega]; simp)
    · exact .inr (by simp [h])
theorem rangeD_map (lo : Int) (n : Nat) : rangeD lo n = (List.range n).map fun (i : Nat) => D.int (lo + (i : Int)) := rfl
theorem byLimits_k {ps : List P2} {most : Int} (h0 : 0 ≤ most) (h1 : most ≤ 1000) (hp : ∀ p ∈ ps, 0 ≤ p.2) (q : ∀ row : List (Option Int), row.length = most.toNat → (∀ x, some x ∈ row → 0 ≤ x) → Q (.lst (row.map dOpt)) S) : Ev (φ__law_by_limits [.lst (ps.map dPair), .int most] S) Q := by
  rw [e__law_by_limits]
  unfold b__law_by_limits
  simp only [↓es_seq, ↓es_new, ↓ev_eDsp, ↓ev_eNil]
  refine ⟨by decide, ?_⟩
  simp only [↓ws_s, ↓ws_0, ↓es_for, ↓ev_iRg2, ↓ev_eC, ↓ev_eBin, ↓ev_eVbs, ↓ev_eVb0, ↓ev_oAdd]
  refine ⟨by omega, ?_⟩
  refine forGo_inv (fun j env S' => S' = S ∧ ∃ (row : List (Option Int)) (x3 x4 : Option Slot), env = [some (.sh (.lst (ps.map dPair))), some (.sh (.int most)), some (.own (row.map dOpt)), x3, x4, none, none] ∧ row.length = j ∧ ∀ x, some x ∈ row → 0 ≤ x) (rangeD 1 (most + 1 - 1).toNat) 0 ?_ _ _ ⟨rfl, [], none, none, rfl, rfl, fun x hx => absurd hx (by simp)⟩ ?_
  · rintro j d env S' hd ⟨rfl, row, x3, x4, rfl, hl, hr⟩
    have hj : j < (most + 1 - 1).toNat := by
      have := (List.getElem?_eq_some_iff.mp hd).1
      rwa [rangeD_len] at this
    rw [rangeD_get hj] at hd
    cases hd
    simp only [↓wg_n, ↓ws_0, ↓ws_s, ↓es_seq, ↓es_set, ↓ev_eLst, ↓ev_eComp, ↓ev_iD, ↓ev_eV0, ↓wq_l, ↓ww_0, ↓ww_s]
    rw [compGo_pure dPair (fun p => decide (p.1 ≤ 1 + (j : Int)) && decide (p.2 ≤ 1 + (j : Int))) (fun p => .int p.2) ps fun p hp => by
      by_cases a : p.1 ≤ 1 + (j : Int)
      · simp [a]
      · simp [a]]
    rw [show ((ps.filter fun p => decide (p.1 ≤ 1 + (j : Int)) && decide (p.2 ≤ 1 + (j : Int))).map fun p => D.int p.2) = ((ps.filter fun p => decide (p.1 ≤ 1 + (j : Int)) && decide (p.2 ≤ 1 + (j : Int))).map Prod.snd).map D.int by rw [List.map_map]; rfl]
    have hmem : ∀ x ∈ (ps.filter fun p => decide (p.1 ≤ 1 + (j : Int)) && decide (p.2 ≤ 1 + (j : Int))).map Prod.snd, 0 ≤ x := fun x hx => by
      obtain ⟨p, hpp, e⟩ := List.mem_map.mp hx
      rw [← e]
      exact hp p (List.mem_filter.mp hpp).1
    generalize (ps.filter fun p => decide (p.1 ≤ 1 + (j : Int)) && decide (p.2 ≤ 1 + (j : Int))).map Prod.snd = ns at *
    have hlr : row.length < 1000000 := by omega
    cases ns with
    | nil =>
      simp [↓ne_ints, hlr]
      exact ⟨row ++ [none], by simp [opt_non], by simp; omega, fun x hx => hr x (by simpa using hx)⟩
    | cons m ms =>
      simp only [↓ws_0, ↓ws_s, ↓es_app, ↓ev_eIf, ↓ev_eTst, ↓ev_eBin, ↓ev_eVbs, ↓ev_eVb0, ↓ev_eLst, ↓ev_eDsp, ↓ev_eNil]
      refine ⟨by decide, ?_⟩
      simp [↓ne_ints, ↓ev_minL, hlr]
      refine ⟨row ++ [some (ms.foldl min m)], by simp [opt_int], by simp; omega, fun x hx => ?_⟩
      rcases List.mem_append.mp hx with z | z
      · exact hr x z
      · have e : x = ms.foldl min m := by simpa using z
        rw [e]
        rcases foldl_min_mem ms m with y | y
        · rw [y]; exact hmem m (by simp)
        · exact hmem _ (by simp [y])
  · rintro env S' ⟨rfl, row, x3, x4, rfl, hl, hr⟩
    rw [Nat.zero_add, rangeD_len] at hl
    simp
    exact q row (by omega) hr
/-- what is known of a stair in the making, behind the limits below j -/
def Mk (j : Nat) (s : List P2) : Prop := s.length ≤ j ∧ (∀ p ∈ s, 1 ≤ p.1 ∧ p.1 < j ∧ 0 ≤ p.2 ∧ p.2 ≤ p.1) ∧ s.Pairwise Falls
theorem Mk.mono {j : Nat} {s : List P2} (h : Mk j s) : Mk (j + 1) s := ⟨by have := h.1; omega, fun p hp => by have := h.2.1 p hp; omega, h.2.2⟩
theorem Mk.snoc {j : Nat} {s : List P2} {v : Int} (h : Mk j s) (h1 : 1 ≤ j) (h2 : 0 ≤ v) (h3 : v ≤ j) (h4 : ∀ q, s.getLast? = some q → v < q.2) : Mk (j + 1) (s ++ [((j : Int), v)]) := by
  refine ⟨by have := h.1; simp; omega, fun p hp => ?_, ?_⟩
  · rcases List.mem_append.mp hp with z | z
    · have := h.2.1 p z; omega
    · have e : p = ((j : Int), v) := by simpa using z
      rw [e]
      show 1 ≤ (j : Int) ∧ (j : Int) < (j + 1 : Nat) ∧ 0 ≤ v ∧ v ≤ (j : Int)
      omega
  · rw [List.pairwise_append]
    refine ⟨h.2.2, List.pairwise_singleton _ _, fun p hp r hr => ?_⟩
    have e : r = ((j : Int), v) := by simpa using hr
    rw [e]
    refine ⟨(h.2.1 p hp).2.1, ?_⟩
    show v < p.2
    rcases snoc_of s with z | ⟨f, q, z⟩
    · rw [z] at hp; exact absurd hp (by simp)
    · have hq := h4 q (by rw [z, List.getLast?_concat])
      rw [z] at hp
      rcases List.mem_append.mp hp with y | y
      · have := h.2.2
        rw [z, List.pairwise_append] at this
        have := (this.2.2 p y q (by simp)).2
        omega
      · have e2 : p = q := by simpa using y
        rw [e2]; exact hq
theorem ofLimits_k {row : List (Option Int)} (hl : row.length ≤ 1000) (hr : ∀ x, some x ∈ row → 0 ≤ x) (q : ∀ s : List P2, Stair row.length s → s.length ≤ row.length + 1 → Q (dStair s) S) : Ev (φ__law_of_limits [.lst (row.map dOpt)] S) Q := by
  rw [e__law_of_limits]
  unfold b__law_of_limits
  simp only [↓es_seq, ↓es_new, ↓ev_eDsp, ↓ev_eNil]
  refine ⟨by decide, ?_⟩
  simp only [↓ws_s, ↓ws_0, ↓es_for, ↓ev_iD, ↓ev_eLst, ↓ev_eListEn, ↓ev_eCatN, ↓ev_eDsp, ↓ev_eCons, ↓ev_eC, ↓ev_eNil, ↓ev_eBltN, ↓ev_eVb0, ↓ev_listL, ↓wq_l]
  refine ⟨by show 1 ≤ 1000; decide, by simp; omega, ?_⟩
  refine forGo_inv (fun j env S' => S' = S ∧ ∃ (s : List P2) (x2 x3 : Option Slot), env = [some (.sh (.lst (row.map dOpt))), some (.own (s.map dPair)), x2, x3] ∧ Mk j s) (enD ([.non] ++ row.map dOpt)) 0 ?_ _ _ ⟨rfl, [], none, none, rfl, Nat.le_refl _, fun p hp => absurd hp (by simp), List.Pairwise.nil⟩ ?_
  · rintro j d env S' hd ⟨rfl, s, x2, x3, rfl, hs⟩
    rw [Nat.zero_add] at hs ⊢
    have hj : ∃ x : Option Int, d = .tup [.int (j : Nat), dOpt x] ∧ (x.isSome → 1 ≤ j) ∧ ∀ v, x = some v → 0 ≤ v := by
      unfold enD at hd
      rw [List.getElem?_mapIdx] at hd
      obtain ⟨y, hy, e⟩ := Option.map_eq_some_iff.mp hd
      cases j with
      | zero =>
        have e2 : y = .non := by simpa using hy.symm
        exact ⟨none, by rw [← e, e2]; rfl, fun z => (by cases z), fun v z => (by cases z)⟩
      | succ j =>
        have e2 : (row.map dOpt)[j]? = some y := by simpa using hy
        rw [List.getElem?_map] at e2
        obtain ⟨x, hx, e3⟩ := Option.map_eq_some_iff.mp e2
        exact ⟨x, by rw [← e, ← e3], fun _ => Nat.succ_pos _, fun v hv => hr v (by rw [← hv]; exact List.mem_of_getElem? hx)⟩
    obtain ⟨x, rfl, hx1, hx2⟩ := hj
    have hlen : s.length < 1000000 := by
      have h1 := (List.getElem?_eq_some_iff.mp hd).1
      rw [enD_len] at h1
      have h2 := hs.1
      simp at h1
      omega
    cases x with
    | none =>
      simp [opt_non]
      exact ⟨s, rfl, hs.mono⟩
    | some v =>
      have v0 := hx2 v rfl
      have j1 := hx1 rfl
      simp only [opt_int, ↓wg_2, ↓wg_n, ↓ws_0, ↓ws_s, ↓es_if, ↓ev_eAndT, ↓ev_eTst, ↓ev_eBin, ↓ev_eVbs, ↓ev_eVb0, ↓ev_eC, ↓ev_oIsNot, ev_isNonI, Bool.not_false, if_true, ↓ev_oLe]
      by_cases hv : v ≤ (j : Int)
      · simp only [decide_eq_true hv, if_true]
        rcases snoc_of s with h | ⟨f, q', h⟩
        · subst h
          simp [↓eq_nilP]
          exact ⟨[((j : Int), v)], by simp, hs.snoc j1 v0 hv (fun q hq => by simp at hq)⟩
        · subst h
          simp only [List.map_append, List.map_cons, List.map_nil]
          have hlen' : f.length + 1 < 1000000 := by simpa using hlen
          by_cases hlt : v < q'.2
          · simp [↓eq_snocP, hlt, hlen']
            exact ⟨f ++ [q'] ++ [((j : Int), v)], by simp, hs.snoc j1 v0 hv (fun q hq => by rw [List.getLast?_concat] at hq; cases hq; exact hlt)⟩
          · simp [↓eq_snocP, hlt]
            exact ⟨f ++ [q'], by simp, hs.mono⟩
      · simp [hv]
        exact ⟨s, rfl, hs.mono⟩
  · rintro env S' ⟨rfl, s, x2, x3, rfl, hs⟩
    rw [Nat.zero_add, enD_len] at hs
    simp
    have hz : ([D.non] ++ row.map dOpt).length = row.length + 1 := by simp
    rw [hz] at hs
    exact q s ⟨fun p hp => by have := hs.2.1 p hp; omega, hs.2.2⟩ (by have := hs.1; omega)
end
end DL

namespace DL
open PySem PySem.Spec PyProof.Rows L2
section
variable {S R : Sto} {Q : D → Sto → Prop} {n : Int}
theorem ne_snocP (f : List P2) (q : P2) (Q : D → Sto → Prop) : Ev (oNe (.lst (f.map dPair ++ [dPair q])) (.lst []) S) Q = Q (.bl true) S := by
  have := ne_nilP (S := S) (f ++ [q]) Q
  rw [List.map_append] at this
  rw [show (f.map dPair ++ [dPair q]) = f.map dPair ++ [q].map dPair from rfl, this]
  simp
theorem foldl_max_le : ∀ (ns : List Int) (n L : Int), ns.foldl max n ≤ L ↔ n ≤ L ∧ ∀ x ∈ ns, x ≤ L
  | [], n, L => by simp
  | x :: ns, n, L => by
    rw [List.foldl_cons, foldl_max_le ns (max n x) L]
    constructor
    · rintro ⟨h, h2⟩
      refine ⟨by omega, fun y hy => ?_⟩
      rcases List.mem_cons.mp hy with e | e
      · rw [e]; omega
      · exact h2 y e
    · rintro ⟨h, h2⟩
      have := h2 x (by simp)
      exact ⟨by omega, fun y hy => h2 y (by simp [hy])⟩
/-- the greatest number of a list of pairs -/
def topOf (s : List P2) : Int := match s.map (fun p => max p.1 p.2) with
  | [] => 0
  | m :: ms => ms.foldl max m
theorem topOf_le {s : List P2} (hs : s ≠ []) {L : Int} : topOf s ≤ L ↔ ∀ p ∈ s, max p.1 p.2 ≤ L := by
  cases s with
  | nil => exact absurd rfl hs
  | cons p r =>
    show (r.map fun p => max p.1 p.2).foldl max (max p.1 p.2) ≤ L ↔ _
    rw [foldl_max_le]
    constructor
    · rintro ⟨h1, h2⟩ q hq
      rcases List.mem_cons.mp hq with e | e
      · rw [e]; exact h1
      · exact h2 _ (List.mem_map.mpr ⟨q, e, rfl⟩)
    · intro h
      refine ⟨h p (by simp), fun x hx => ?_⟩
      obtain ⟨q, hq, rfl⟩ := List.mem_map.mp hx
      exact h q (by simp [hq])
theorem most_k {xs : List (List P2)} {f : List P2 → D} (hf : f = (fun s => D.lst (s.map dPair)) ∨ f = dStair) (hl : xs.length ≤ 1000) (q : ∀ M : Int, 3 ≤ M → (∀ s ∈ xs, ∀ p ∈ s, max p.1 p.2 ≤ M - 3) → (∀ B, 0 ≤ B → (∀ s ∈ xs, ∀ p ∈ s, max p.1 p.2 ≤ B) → M ≤ B + 3) → Q (.int M) S) : Ev (φ__law_most [.lst (xs.map f)] S) Q := by
  have len_f : ∀ (s : List P2) (Q : D → Sto → Prop), Ev (bLen [f s] S) Q = Q (.int s.length) S := fun s Q => by
    rcases hf with e | e
    · subst e; simp
    · subst e; simp [dStair]
  have seq_f : ∀ (s : List P2) (k : List D → Prop), withSeq (f s) k = k (s.map dPair) := fun s k => by
    rcases hf with e | e
    · subst e; rfl
    · subst e; rfl
  rw [e__law_most]
  unfold b__law_most
  simp only [↓es_ret, ↓ev_eBin, ↓ev_eC, ↓ev_eBlt, ↓ev_eCons, ↓ev_eLst, ↓ev_eCatN, ↓ev_eDsp, ↓ev_eNil]
  refine ⟨by show 1 ≤ 1000; decide, ?_⟩
  simp only [↓ev_eComp, ↓ev_iD, ↓ev_eV0, ↓wq_l, ↓ww_0, ↓ww_s, ↓ws_0, ↓ws_s]
  rw [compGo_pure f (fun s => decide (0 < (s.length : Int))) (fun s => .int (topOf s)) xs fun s hs => by
    simp only [↓wg_n, ↓ws_0, ↓ws_s, ↓ev_eTst, ↓ev_eBin, ↓ev_eBlt, ↓ev_eCons, ↓ev_eVbs, ↓ev_eVb0, ↓ev_eNil, ↓len_f, ↓ev_eC, ↓ev_oGt]
    refine ⟨trivial, trivial, fun hk => ?_⟩
    simp only [↓ev_eLst, ↓ev_eComp, ↓ev_iD, ↓ev_eVs, ↓ev_eV0, ↓seq_f, ↓ww_0, ↓ww_s, ↓ws_0, ↓ws_s]
    rw [compGo_all dPair (fun p => .int (max p.1 p.2)) s fun p hp => by simp]
    rw [show (s.map fun p => D.int (max p.1 p.2)) = (s.map fun p => max p.1 p.2).map D.int by rw [List.map_map]; rfl]
    unfold topOf
    cases s with
    | nil => simp at hk
    | cons p r =>
      simp only [List.map_cons]
      rw [show D.int (max p.1 p.2) :: (r.map fun p => max p.1 p.2).map D.int = (max p.1 p.2 :: r.map fun p => max p.1 p.2).map D.int from rfl, ev_maxL]
      first | exact ⟨rfl, rfl⟩ | exact ⟨rfl, trivial⟩]
  have hlen : ((xs.filter fun s => decide (0 < (s.length : Int))).map fun s => D.int (topOf s)).length ≤ xs.length := by
    rw [List.length_map]; exact List.length_filter_le _ _
  refine ⟨by simp only [List.length_cons, List.length_nil]; omega, ?_⟩
  rw [show [D.int 0] ++ ((xs.filter fun s => decide (0 < (s.length : Int))).map fun s => D.int (topOf s)) = (0 :: (xs.filter fun s => decide (0 < (s.length : Int))).map topOf).map D.int by
    rw [List.map_cons, List.map_map]; rfl]
  simp only [↓ev_maxL, ↓ev_oAdd]
  have mem : ∀ x, x ∈ (xs.filter fun s => decide (0 < (s.length : Int))).map topOf ↔ ∃ s ∈ xs, s ≠ [] ∧ topOf s = x := fun x => by
    rw [List.mem_map]
    constructor
    · rintro ⟨s, hs, e⟩
      rw [List.mem_filter, decide_eq_true_eq] at hs
      exact ⟨s, hs.1, fun z => by rw [z] at hs; simp at hs, e⟩
    · rintro ⟨s, hs, hne, e⟩
      have := List.length_pos_iff.mpr hne
      exact ⟨s, by rw [List.mem_filter, decide_eq_true_eq]; exact ⟨hs, by omega⟩, e⟩
  refine q _ ?_ (fun s hs p hp => ?_) (fun B hB h => ?_)
  · have := (foldl_max_le ((xs.filter fun s => decide (0 < (s.length : Int))).map topOf) 0 _).mp (Int.le_refl _)
    omega
  · have h1 := ((foldl_max_le ((xs.filter fun s => decide (0 < (s.length : Int))).map topOf) 0 _).mp (Int.le_refl _)).2 (topOf s) ((mem _).mpr ⟨s, hs, fun z => by rw [z] at hp; exact absurd hp (by simp), rfl⟩)
    have h2 := (topOf_le (s := s) (fun z => by rw [z] at hp; exact absurd hp (by simp))).mp h1 p hp
    omega
  · have := (foldl_max_le ((xs.filter fun s => decide (0 < (s.length : Int))).map topOf) 0 B).mpr ⟨hB, fun x hx => by
      obtain ⟨s, hs, hne, e⟩ := (mem x).mp hx
      rw [← e, topOf_le hne]
      exact h s hs⟩
    omega
theorem stair_k {m : Int} (m1 : 1 ≤ m) (m2 : m ≤ 50) (h : PenR R n S) (hn : n < 1000000) (q : ∀ (s : List P2) (S' : Sto), Stair (m + 3) s → s.length ≤ 100 → PenR R (n + 11) S' → Q (dStair s) S') : Ev (φ__law_stair [.mu 0, .int m] S) Q := by
  rw [e__law_stair]
  unfold b__law_stair
  simp only [↓es_seq, ↓es_set, ↓ev_eCall, ↓ev_eCons, ↓ev_eV0, ↓ev_eVs, ↓ev_eNil]
  refine pairs_k m1 (by omega) h hn fun ps S1 hl hp p1 => ?_
  simp only [↓ws_0, ↓ws_s, ↓es_ret, ↓ev_eCall, ↓ev_eCons, ↓ev_eVs, ↓ev_eV0, ↓ev_eNil, ↓ev_eLst, ↓ev_eDsp]
  refine ⟨by show 1 ≤ 1000; decide, ?_⟩
  rw [show [D.lst (ps.map dPair)] = [ps].map (fun s => D.lst (s.map dPair)) from rfl]
  refine most_k (.inl rfl) (by simp) fun M h3 hM hB => ?_
  have hM9 := hB m (by omega) (fun s hs p hp' => by
    rw [List.mem_singleton.mp hs] at hp'
    have := hp p hp'
    omega)
  refine byLimits_k (by omega) (by omega) (fun p hp' => (hp p hp').2.2.1) fun row hl2 hr => ?_
  refine ofLimits_k (by omega) hr fun s hs hl3 => ?_
  exact q s S1 (hs.mono (by omega)) (by omega) p1
theorem someStair_k {m : Int} (m1 : 1 ≤ m) (m2 : m ≤ 50) (h : PenR R n S) (hn : n < 1000000) (q : ∀ (s : List P2) (S' : Sto), Stair (m + 3) s → s ≠ [] → s.length ≤ 100 → PenR R (n + 12) S' → Q (dStair s) S') : Ev (φ__law_some_stair [.mu 0, .int m] S) Q := by
  rw [e__law_some_stair]
  unfold b__law_some_stair
  simp only [↓es_seq, ↓es_set, ↓ev_eCall, ↓ev_eCons, ↓ev_eV0, ↓ev_eVs, ↓ev_eNil]
  refine stair_k m1 m2 h hn fun s S1 hs hl p1 => ?_
  simp only [↓ws_0, ↓ws_s, ↓es_ret, ↓ev_eIf, ↓ev_eTst, ↓ev_eBin, ↓ev_eVbs, ↓ev_eVb0, ↓ev_eTup, ↓ev_eNil]
  refine ⟨by show 0 ≤ 1000; decide, ?_⟩
  simp only [↓ne_emptyT]
  by_cases he : s = []
  · subst he
    simp only [decide_true, Bool.not_true, Bool.false_eq_true, if_false, ↓ev_eTup, ↓ev_eCons, ↓ev_eBin, ↓ev_eC, ↓ev_eCall, ↓ev_eV0, ↓ev_eVs, ↓ev_eNil]
    refine draw_k p1 (by omega) (by omega) (by omega) fun x S2 x0 x1 p2 => ?_
    simp only [↓ev_oAdd]
    refine ⟨by show 2 ≤ 1000; decide, by show 1 ≤ 1000; decide, ?_⟩
    exact q [(1 + x, 1)] S2 ⟨fun p hp => by
      have e : p = (1 + x, 1) := by simpa using hp
      rw [e]
      show 1 ≤ 1 + x ∧ 1 + x ≤ m + 3 ∧ (0:Int) ≤ 1 ∧ 1 ≤ 1 + x
      omega, List.pairwise_singleton _ _⟩ (by simp) (by simp) (p2.mono (by omega))
  · simp only [decide_eq_false he, Bool.not_false, if_true, ↓ev_eVs, ↓ev_eV0]
    exact q s S1 hs he hl (p1.mono (by omega))
/-- the law's own cut -/
theorem lawCut_ev {ps : List P2} (hl : ps.length ≤ 1000) : Ev (φ__law_cut [.lst (ps.map dPair)] S) Q = Q (dStair (cutP ps)) S := Ev.of (Ev.eq (by
  rw [e__law_cut]
  unfold b__law_cut
  simp only [↓es_seq, ↓es_set, ↓ev_eLst, ↓ev_eBltN, ↓ev_eCons, ↓ev_eComp, ↓ev_iD, ↓ev_eV0, ↓wq_l, ↓ww_0, ↓ww_s, ↓ws_0, ↓ws_s]
  rw [compGo_all dPair (fun p => dPair (max p.1 p.2, p.2)) ps fun p hp => by simp]
  simp only [↓ev_eNil, ↓corner_sort, ↓ws_0, ↓ws_s, ↓es_seq, ↓es_new, ↓ev_eDsp]
  refine ⟨by decide, ?_⟩
  simp only [↓ws_0, ↓ws_s, ↓es_for, ↓ev_iD, ↓ev_eVs, ↓ev_eV0, ↓wq_l]
  refine forGo_pre dPair (fun pre env S' => S' = S ∧ ∃ x y, env = [some (.sh (.lst (ps.map dPair))), some (.sh (.lst ((cornersOf ps).map dPair))), x, y, some (.own ((pre.foldl cutStep []).map dPair))]) (cornersOf ps) [] ?_ _ _ ⟨rfl, _, _, rfl⟩ ?_
  · rintro pre x post env S' e ⟨rfl, x2, y2, rfl⟩
    have ok := cut_pre (ps := ps) (pre := pre) (post := x :: post) e
    have hlen : (pre.foldl cutStep []).length < 1000000 := by
      have h1 := ok.len
      have h2 := corners_len ps
      rw [show cornersOf ps = pre ++ x :: post from e, List.length_append, List.length_cons] at h2
      omega
    have hsort : ∀ q ∈ pre, leP q x = true := fun q hq => by
      have hs := corners_sorted ps
      rw [show cornersOf ps = pre ++ x :: post from e] at hs
      exact (List.pairwise_append.mp hs).2.2 q hq x (by simp)
    rcases snoc_of (pre.foldl cutStep []) with h | ⟨f, q, h⟩
    · simp [fold_snoc, h, cutStep_nil, ↓eq_nilP, ↓ne_nilP]
    · have hqx := leP_iff.mp (hsort q (ok.sub q (by rw [h]; simp)))
      rw [h] at hlen
      simp only [fold_snoc, h, cutStep_snoc, List.map_append, List.map_cons, List.map_nil]
      have hlen' : f.length + 1 < 1000000 := by simpa using hlen
      have eqI : ∀ (i j : Int) (Q : D → Sto → Prop), Ev (oEq (.int i) (.int j) S') Q = Q (.bl (decide (i = j))) S' := fun i j Q => eqE_int.oEq (by decide) i j S' Q
      by_cases hx : x.2 < q.2
      · have hne : ¬ q.1 = x.1 := by omega
        simp [hx, ↓eq_snocP, ↓ne_snocP, ↓eqI, hne, hlen']
      · simp [hx, ↓eq_snocP]
  · rintro env S' ⟨rfl, x2, y2, rfl⟩
    simp [dStair, cutP]))
theorem cut_len (ps : List P2) : (cutP ps).length ≤ ps.length := by
  have := (cut_ok ps).len
  rwa [corners_len] at this
theorem pen_ev {ns : List Int} (hl : ns.length ≤ 63) : Ev (φ__law_pen [.lst (ns.map .int)] []) Q = Q (.mu 0) [[.lst (ns.map .int), .int 0, .int 0]] := Ev.of (Ev.eq (by
  rw [e__law_pen]
  unfold b__law_pen
  simp only [↓es_ret, ↓ev_eMu, ↓ev_eDsp, ↓ev_eCons, ↓ev_eLst, ↓ev_eComp, ↓ev_iD, oSo_int, oNo_eq, ↓ev_eSl, ↓ev_eVb0, ↓ww_0, ↓ww_s, ↓ws_0, ↓ws_s, ↓wq_l]
  have cut : cutD (ns.map D.int) none (some 63) = ns.map D.int := by
    unfold cutD
    rw [show HT.sIx (ns.map D.int).length 0 none = 0 from HT.sIx_none _ 0, show HT.sIx (ns.map D.int).length (ns.map D.int).length (some 63) = min 63 (ns.map D.int).length from HT.sIx_nat _ _ 63, List.drop_zero, Nat.sub_zero]
    exact List.take_of_length_le (by rw [List.length_map]; omega)
  rw [cut, compGo_all D.int D.int ns fun x hx => by simp]
  simp))
end
end DL

namespace DL
open PySem PySem.Spec PyProof.Rows L2
/-! ### any datum -/
mutual
def pd : D → Bool
  | .mu _ => false
  | .ty _ => false
  | .lst ds => pdAll ds
  | .tup ds => pdAll ds
  | .non => true
  | .bl _ => true
  | .int _ => true
  | .str _ => true
  | .dct _ _ => true
def pdAll : List D → Bool
  | [] => true
  | d :: ds => pd d && pdAll ds
end
theorem pdAll_mem : ∀ {ds : List D}, pdAll ds = true → ∀ d ∈ ds, pd d = true
  | [], _, d, h => absurd h (by simp)
  | c :: cs, e, d, h => by
    have e' : (pd c && pdAll cs) = true := e
    rw [Bool.and_eq_true] at e'
    rcases List.mem_cons.mp h with r | r
    · rw [r]; exact e'.1
    · exact pdAll_mem e'.2 d r
theorem pd_seq {d : D} {ds : List D} (h : pd d = true) (e : seqD d = some ds) : pdAll ds = true := by
  cases d <;> first | (cases e; exact h) | (cases e)
def intD : D → Option Int
  | .int i => some i
  | _ => none
def betw (a b : Int) (d : D) : Bool := match intD d with
  | some i => decide (a ≤ i) && decide (i ≤ b)
  | none => false
def MM : Int := 1000000
section
variable {S R : Sto} {Q : D → Sto → Prop} {n : Int}
theorem compGo_allD {g : GE} {f : EE} {env0 : Env} {S : Sto} {Q : List D → Sto → Prop} (out : D → D) (xs : List D) (h : ∀ x ∈ xs, withG g x env0 fun env => Ev (f env S) fun d S2 => d = out x ∧ S2 = S) :
    Ev (compGo g eYes f env0 xs S) Q = Q (xs.map out) S := by
  have := compGo_all (Q := Q) (fun x => x) out xs h
  rwa [List.map_id'] at this
theorem compGo_pureD {g : GE} {p : ET} {f : EE} {env0 : Env} {S : Sto} {Q : List D → Sto → Prop} (keep : D → Bool) (out : D → D) (xs : List D) (h : ∀ x ∈ xs, withG g x env0 fun env => Ev (p env S) fun b S1 => b = keep x ∧ S1 = S ∧ (keep x = true → Ev (f env S) fun d S2 => d = out x ∧ S2 = S)) :
    Ev (compGo g p f env0 xs S) Q = Q ((xs.filter keep).map out) S := by
  have := compGo_pure (Q := Q) (fun x => x) keep out xs h
  rwa [List.map_id'] at this
theorem ev_allB {γ : Type} (g : γ → Bool) (xs : List γ) : Ev (bAll [.lst (xs.map fun x => D.bl (g x))] S) Q = Q (.bl (xs.all g)) S := by
  rw [show (xs.map fun x => D.bl (g x)) = (xs.map g).map D.bl by rw [List.map_map]; rfl, ev_all, List.all_map]
  rfl
theorem ev_forNil {g : GE} {b : SS} {env : Env} {nx bk ct : Env → Sto → Prop} {rt : D → Sto → Prop} : EvS (forGo g b [] env S) nx rt bk ct = nx env S := Ev.of rfl
theorem ev_forCons {g : GE} {b : SS} {d : D} {ds : List D} {env : Env} {nx bk ct : Env → Sto → Prop} {rt : D → Sto → Prop} : EvS (forGo g b (d :: ds) env S) nx rt bk ct =
    withG g d env fun env1 => EvS (b env1 S) (fun env2 S => EvS (forGo g b ds env2 S) nx rt bk ct) rt nx (fun env2 S => EvS (forGo g b ds env2 S) nx rt bk ct) := by
  show EvS (match g d env with | none => Res.stuck | some env1 => (b env1 S).bind fun o S => match o with
        | .nx env2 => forGo g b ds env2 S | .ct env2 => forGo g b ds env2 S | .bk env2 => .ok (.nx env2) S | .rt d => .ok (.rt d) S) nx rt bk ct = _
  unfold withG
  cases g d env with
  | none => exact evs_no
  | some env1 =>
    show EvS (Res.bind _ _) nx rt bk ct = EvS (b env1 S) _ _ _ _
    rw [evs_bind]
    unfold EvS
    congr 1
    funext o S
    cases o <;> first | rfl | exact Ev.of rfl
theorem int_any {d : D} (h : pd d = true) : Ev (φ_is_integer [d] S) Q = Q (.bl (intD d).isSome) S := by
  rw [e_is_integer]
  unfold b_is_integer
  cases d <;> first | (cases h; done) | (simp [withTy, isTy, intD])
theorem betw_any {d : D} {a b : Int} (h : pd d = true) : Ev (φ_is_between [d, .int a, .int b] S) Q = Q (.bl (betw a b d)) S := by
  rw [e_is_between]
  unfold b_is_between
  simp only [↓es_ret, ↓ev_eAnd, ↓ev_eCall, ↓ev_eCons, ↓ev_eV0, ↓ev_eNil, ↓int_any h]
  cases d <;> first
    | (cases h; done)
    | (rename_i i
       simp [intD, betw]
       by_cases h1 : a ≤ i
       · simp [h1]
       · simp [h1])
    | (simp [intD, betw])
theorem listed_any {d : D} (h : pd d = true) : Ev (φ_is_listed [d] S) Q = Q (.bl (seqD d).isSome) S := by
  rw [e_is_listed]
  unfold b_is_listed
  cases d <;> first | (cases h; done) | (simp [withTy, isTy, seqD])
/-- a pair of ints, the second one between a and b -/
def pairL (a b : Int) : List D → Bool
  | [x, y] => betw 1 MM x && betw a b y
  | _ => false
def pairOk (a b : Int) (d : D) : Bool := match seqD d with
  | some ds => pairL a b ds
  | none => false
theorem neI2 (i j : Int) (Q : D → Sto → Prop) : Ev (oNe (.int i) (.int j) S) Q = Q (.bl (!decide (i = j))) S := eqE_int.oNe (by decide) i j S Q
theorem eqI2 (i j : Int) (Q : D → Sto → Prop) : Ev (oEq (.int i) (.int j) S) Q = Q (.bl (decide (i = j))) S := eqE_int.oEq (by decide) i j S Q
theorem pair_any {d : D} {a b : Int} (h : pd d = true) : Ev (φ_is_pair_of [d, .int a, .int b] S) Q = Q (.bl (pairOk a b d)) S := by
  rw [e_is_pair_of]
  unfold b_is_pair_of
  simp only [↓es_seq, ↓es_if, ↓ev_eOrT, ↓ev_eNotT, ↓ev_eTru, ↓ev_eCall, ↓ev_eCons, ↓ev_eV0, ↓ev_eNil, ↓listed_any h, ↓wt_b]
  have key : ∀ {mk : List D → D} (hm : mk = D.lst ∨ mk = D.tup) (ds : List D) (hd : pdAll ds = true), EvS ((sSeq (sIf (eOrT (eNotT (eTru (eC (.bl true)))) (eTst (eBin oNe (eBlt bLen (eCons (eVb 0) eNil)) (eC (.int 2))))) (sRet (eC (.bl false))) sNil)
    (sRet (eAnd (eCall φ_is_between (eCons (eBin oIx (eVb 0) (eC (.int 0))) (eCons (eC (.int 1)) (eCons (eC (.int 1000000)) eNil)))) (eCall φ_is_between (eCons (eBin oIx (eVb 0) (eC (.int 1))) (eCons (eV 1) (eCons (eV 2) eNil))))))) [some (.sh (mk ds)), some (.sh (.int a)), some (.sh (.int b))] S) (fun _ S => Q .non S) Q (fun _ _ => False) (fun _ _ => False) = Q (.bl (pairL a b ds)) S := by
    intro mk hm ds hd
    have hlen : ∀ Q : D → Sto → Prop, Ev (bLen [mk ds] S) Q = Q (.int ds.length) S := fun Q => by
      rcases hm with rfl | rfl <;> simp
    simp only [↓es_seq, ↓es_if, ↓ev_eOrT, ↓ev_eNotT, ↓ev_eTru, ↓ev_eC, ↓wt_b, Bool.not_true, Bool.false_eq_true, if_false, ↓ev_eTst, ↓ev_eBin, ↓ev_eBlt, ↓ev_eCons, ↓ev_eVb0, ↓ev_eNil, ↓hlen, ↓neI2]
    by_cases h2 : ds.length = 2
    · obtain ⟨x, y, rfl⟩ : ∃ x y, ds = [x, y] := by
        match ds, h2 with
        | [x, y], _ => exact ⟨x, y, rfl⟩
      have hx := pdAll_mem hd x (by simp)
      have hy := pdAll_mem hd y (by simp)
      have i0 : ∀ Q : D → Sto → Prop, Ev (oIx (mk [x, y]) (.int 0) S) Q = Q x S := fun Q => by rcases hm with rfl | rfl <;> exact Ev.of rfl
      have i1 : ∀ Q : D → Sto → Prop, Ev (oIx (mk [x, y]) (.int 1) S) Q = Q y S := fun Q => by rcases hm with rfl | rfl <;> exact Ev.of rfl
      simp [↓i0, ↓i1, ↓betw_any hx, ↓betw_any hy, MM, pairL]
      by_cases hb : betw 1 1000000 x = true
      · simp [hb]
      · simp [Bool.eq_false_iff.mpr hb]
    · have hz : ¬ ((ds.length : Int) = 2) := by omega
      simp only [hz, decide_false, Bool.not_false, if_true, ↓es_ret, ↓ev_eC]
      congr 1
      match ds, h2 with
      | [], _ => rfl
      | [_], _ => rfl
      | [_, _], h2 => exact absurd rfl h2
      | _ :: _ :: _ :: _, _ => rfl
  cases d <;> first
    | (cases h; done)
    | (rename_i ds
       have k := key (.inl rfl) ds h
       simp only [↓es_seq, ↓es_if, ↓ev_eOrT, ↓ev_eNotT, ↓ev_eTru, ↓ev_eC, ↓wt_b] at k
       exact k)
    | (rename_i ds
       have k := key (.inr rfl) ds h
       simp only [↓es_seq, ↓es_if, ↓ev_eOrT, ↓ev_eNotT, ↓ev_eTru, ↓ev_eC, ↓wt_b] at k
       exact k)
    | (simp [seqD, pairOk])
end
end DL

namespace DL
open PySem PySem.Spec PyProof.Rows L2
/-- the pair of a datum -/
def pr (d : D) : P2 := match seqD d with
  | some [.int a, .int b] => (a, b)
  | _ => (0, 0)
def okC (d : D) : Bool := pairOk 0 MM d && decide ((pr d).2 ≤ (pr d).1)
def retag (d : D) (cs : List D) : D := match d with
  | .lst _ => .lst cs
  | _ => .tup cs
def fallB (p q : P2) : Bool := decide (p.1 < q.1) && decide (q.2 < p.2)
def fallO (a : Option P2) (p : P2) : Bool := match a with
  | none => true
  | some q => fallB q p
def soGo : Option P2 → List D → Bool
  | _, [] => true
  | a, c :: cs => okC c && fallO a (pr c) && soGo (some (pr c)) cs
def so (d : D) : Bool := match seqD d with
  | some cs => soGo none cs
  | none => false
def headO (a : Option P2) (cs : List D) : Bool := match cs with
  | c :: _ => fallO a (pr c)
  | [] => true
theorem soGo_eq : ∀ (cs : List D) (a : Option P2), soGo a cs = (cs.all (pairOk 0 MM) && (cs.all fun c => decide ((pr c).2 ≤ (pr c).1)) && (headO a cs && (cs.zip (cs.drop 1)).all fun q => fallB (pr q.1) (pr q.2)))
  | [], a => rfl
  | c :: cs, a => by
    show (okC c && fallO a (pr c) && soGo (some (pr c)) cs) = _
    rw [soGo_eq cs (some (pr c))]
    have e : ((c :: cs).zip ((c :: cs).drop 1)).all (fun q => fallB (pr q.1) (pr q.2)) = (headO (some (pr c)) cs && (cs.zip (cs.drop 1)).all fun q => fallB (pr q.1) (pr q.2)) := by
      cases cs with
      | nil => rfl
      | cons c' r => rfl
    rw [e, List.all_cons, List.all_cons]
    unfold okC
    rw [show headO a (c :: cs) = fallO a (pr c) from rfl]
    generalize headO (some (pr c)) cs = x1
    generalize pairOk 0 MM c = x2
    generalize decide ((pr c).2 ≤ (pr c).1) = x3
    generalize fallO a (pr c) = x4
    generalize cs.all (pairOk 0 MM) = x5
    generalize (cs.all fun c => decide ((pr c).2 ≤ (pr c).1)) = x6
    generalize ((cs.zip (cs.drop 1)).all fun q => fallB (pr q.1) (pr q.2)) = x7
    revert x1 x2 x3 x4 x5 x6 x7
    decide
theorem pairOk_pr {a b : Int} {d : D} (h : pairOk a b d = true) : ∃ (x y : Int) (mk : List D → D), (mk = D.lst ∨ mk = D.tup) ∧ d = mk [.int x, .int y] ∧ pr d = (x, y) ∧ 1 ≤ x ∧ x ≤ MM ∧ a ≤ y ∧ y ≤ b := by
  have key : ∀ (mk : List D → D) (hm : mk = D.lst ∨ mk = D.tup) (ds : List D), d = mk ds → ∃ (x y : Int) (mk : List D → D), (mk = D.lst ∨ mk = D.tup) ∧ d = mk [.int x, .int y] ∧ pr d = (x, y) ∧ 1 ≤ x ∧ x ≤ MM ∧ a ≤ y ∧ y ≤ b := by
    intro mk hm ds e
    have hs : seqD d = some ds := by rw [e]; rcases hm with rfl | rfl <;> rfl
    unfold pairOk at h
    rw [hs] at h
    replace h : pairL a b ds = true := h
    unfold pairL at h
    split at h
    · rename_i u v
      rw [Bool.and_eq_true] at h
      obtain ⟨h1, h2⟩ := h
      have bi : ∀ {l m : Int} {w : D}, betw l m w = true → ∃ i, w = .int i ∧ l ≤ i ∧ i ≤ m := by
        intro l m w hw
        unfold betw at hw
        cases w <;> first
          | (cases hw; done)
          | (rename_i i
             have hw' : (decide (l ≤ i) && decide (i ≤ m)) = true := hw
             rw [Bool.and_eq_true, decide_eq_true_eq, decide_eq_true_eq] at hw'
             exact ⟨i, rfl, hw'⟩)
      obtain ⟨x, rfl, hx⟩ := bi h1
      obtain ⟨y, rfl, hy⟩ := bi h2
      refine ⟨x, y, mk, hm, e, ?_, hx.1, hx.2, hy.1, hy.2⟩
      unfold pr
      rw [hs]
    · cases h
  cases d <;> first
    | exact key _ (.inl rfl) _ rfl
    | exact key _ (.inr rfl) _ rfl
    | (cases h; done)
section
variable {S R : Sto} {Q : D → Sto → Prop} {n : Int}
theorem zipD_zip (xs ys : List D) : zipD xs ys = (xs.zip ys).map fun q => .tup [q.1, q.2] := by
  unfold zipD
  rw [List.zip, List.map_zipWith]
theorem cut1D (cs : List D) : cutD cs (some 1) none = cs.drop 1 := by
  unfold cutD
  rw [show HT.sIx cs.length 0 (some 1) = min 1 cs.length from HT.sIx_nat _ 0 1, HT.sIx_none]
  cases cs with
  | nil => rfl
  | cons p r =>
    rw [show min 1 (p :: r).length = 1 by simp]
    exact List.take_of_length_le (by simp)
theorem stair_any {d : D} (h : pd d = true) : Ev (φ_is_stair [d] S) Q = Q (.bl (so d)) S := Ev.of (Ev.eq (by
  rw [e_is_stair]
  unfold b_is_stair
  simp only [↓es_seq, ↓es_if, ↓ev_eOrT, ↓ev_eNotT, ↓ev_eTru, ↓ev_eCall, ↓ev_eCons, ↓ev_eV0, ↓ev_eNil, ↓listed_any h, ↓wt_b]
  cases hs : seqD d with
  | none =>
    simp [so, hs]
  | some cs =>
    have hd := pd_seq h hs
    have hw : ∀ k : List D → Prop, withSeq d k = k cs := fun k => by unfold withSeq; rw [hs]
    simp only [Option.isSome_some, Bool.not_true, Bool.false_eq_true, if_false, ↓ev_eBlt, ↓ev_eCons, ↓ev_eLst, ↓ev_eComp, ↓ev_iD, ↓ev_eV0, ↓hw, ↓ww_0, ↓ww_s, ↓ws_0, ↓ws_s, ↓ev_eNil]
    rw [compGo_allD (fun c => .bl (pairOk 0 MM c)) cs fun c hc => by simp [↓pair_any (pdAll_mem hd c hc), MM]]
    simp only [↓ev_allB, ↓wt_b]
    have hso : so d = soGo none cs := by unfold so; rw [hs]
    rw [soGo_eq] at hso
    cases ha : cs.all (pairOk 0 MM) with
    | false =>
      rw [ha] at hso
      simp [hso]
    | true =>
      rw [ha] at hso
      rw [List.all_eq_true] at ha
      simp only [Bool.not_true, Bool.false_eq_true, if_false, ↓es_nil, ↓ev_eBlt, ↓ev_eCons, ↓ev_eLst, ↓ev_eComp, ↓ev_iD, ↓ev_eV0, ↓hw, ↓ww_0, ↓ww_s, ↓ws_0, ↓ws_s, ↓ev_eNil]
      rw [compGo_allD (fun c => .bl (decide ((pr c).2 ≤ (pr c).1))) cs fun c hc => by
        obtain ⟨x, y, mk, hm, e, e2, _⟩ := pairOk_pr (ha c hc)
        rw [e2]
        rcases hm with rfl | rfl
        · rw [e]; simp only [↓wg_2l, ↓wg_n, ↓ws_0, ↓ws_s, ↓ev_eBin, ↓ev_eVbs, ↓ev_eVb0, ↓ev_oLe]; first | exact ⟨rfl, rfl⟩ | exact ⟨rfl, trivial⟩ | exact ⟨trivial, trivial⟩
        · rw [e]; simp only [↓wg_2, ↓wg_n, ↓ws_0, ↓ws_s, ↓ev_eBin, ↓ev_eVbs, ↓ev_eVb0, ↓ev_oLe]; first | exact ⟨rfl, rfl⟩ | exact ⟨rfl, trivial⟩ | exact ⟨trivial, trivial⟩]
      simp only [↓ev_allB, ↓wt_b]
      cases hb : cs.all (fun c => decide ((pr c).2 ≤ (pr c).1)) with
      | false =>
        rw [hb] at hso
        simp [hso]
      | true =>
        rw [hb] at hso
        have hcut : ∀ (Q : D → Sto → Prop) (env : Env), Ev (eSl (eVb 0) (oSo (eC (.int 1))) oNo (some (.sh d) :: env) S) Q = Q (retag d (cs.drop 1)) S := fun Q env => by
          rw [oSo_int, oNo_eq, ev_eSl, ev_eVb0]
          cases d <;> first
            | (cases hs; exact congrArg (fun z => Q (D.lst z) S) (cut1D cs))
            | (cases hs; exact congrArg (fun z => Q (D.tup z) S) (cut1D cs))
            | (cases hs; done)
        have htwo : ∀ k : List D → List D → Prop, withTwo d (retag d (cs.drop 1)) k = k cs (cs.drop 1) := fun k => by
          cases d <;> first
            | (cases hs; rfl)
            | (cases hs; done)
        simp only [Bool.not_true, Bool.false_eq_true, if_false, ↓es_nil, ↓es_ret, ↓ev_eBlt, ↓ev_eCons, ↓ev_eLst, ↓ev_eComp, ↓ev_iZi, ↓ev_eV0, ↓hcut, ↓htwo, ↓ww_0, ↓ww_s, ↓ws_0, ↓ws_s, ↓ev_eNil]
        rw [zipD_zip, compGo_all (fun q : D × D => D.tup [q.1, q.2]) (fun q => .bl (fallB (pr q.1) (pr q.2))) (cs.zip (cs.drop 1)) fun q hq => by
          have hq1 := (List.of_mem_zip hq).1
          have hq2 := List.mem_of_mem_drop (List.of_mem_zip hq).2
          obtain ⟨x, y, mk, hm, e, e2, _⟩ := pairOk_pr (ha q.1 hq1)
          obtain ⟨u, v, mk', hm', e', e2', _⟩ := pairOk_pr (ha q.2 hq2)
          rw [e2, e2', e, e']
          have i0 : ∀ {mk : List D → D} (hm : mk = D.lst ∨ mk = D.tup) (x y : Int) (Q : D → Sto → Prop), Ev (oIx (mk [.int x, .int y]) (.int 0) S) Q = Q (.int x) S := fun hm x y Q => by rcases hm with rfl | rfl <;> exact Ev.of rfl
          have i1 : ∀ {mk : List D → D} (hm : mk = D.lst ∨ mk = D.tup) (x y : Int) (Q : D → Sto → Prop), Ev (oIx (mk [.int x, .int y]) (.int 1) S) Q = Q (.int y) S := fun hm x y Q => by rcases hm with rfl | rfl <;> exact Ev.of rfl
          simp only [↓wg_2, ↓wg_n, ↓ws_0, ↓ws_s, ↓ev_eAnd, ↓ev_eBin, ↓ev_eVbs, ↓ev_eVb0, ↓ev_eC, ↓i0 hm, ↓i1 hm, ↓i0 hm', ↓i1 hm', ↓ev_oLt, ↓ev_oGt]
          unfold fallB
          by_cases h1 : x < u
          · simp only [h1, decide_true, if_true, Bool.true_and]
            first | exact ⟨rfl, rfl⟩ | exact ⟨rfl, trivial⟩ | exact ⟨trivial, trivial⟩ | trivial
          · simp only [h1, decide_false, Bool.false_eq_true, if_false, Bool.false_and]
            first | exact ⟨rfl, rfl⟩ | exact ⟨rfl, trivial⟩ | exact ⟨trivial, trivial⟩ | trivial]
        simp only [↓ev_allB]
        rw [hso, show headO none cs = true by cases cs <;> rfl]
        simp))
/-! the law's own look -/
def soBody : SS := (sSeq (sIf (eOrT (eNotT (eTru (eIsi2 "list" "tuple" (eVb 2)))) (eOrT (eTst (eBin oNe (eBlt bLen (eCons (eVb 2) eNil)) (eC (.int 2)))) (eTst (eBin oNe (eLst (eComp (iD (eV 2)) (gN 3) (eOrT (eNotT (eTru (eIsi "int" (eVb 3)))) (eTru (eIsi "bool" (eVb 3)))) (eC (.int 1)) [3])) (eLst (eDsp eNil)))))) (sRet (eC (.bl false))) sNil)
    (sSeq (sIf (eOrT (eNotT (eTst (eChain oLe oLe (eC (.int 1)) (eBin oIx (eVb 2) (eC (.int 0))) (eBin oPow (eC (.int 10)) (eC (.int 6)))))) (eNotT (eTst (eChain oLe oLe (eC (.int 0)) (eBin oIx (eVb 2) (eC (.int 1))) (eBin oIx (eVb 2) (eC (.int 0))))))) (sRet (eC (.bl false))) sNil)
    (sSeq (sIf (eAndT (eTst (eBin oIsNot (eVb 1) (eC .non))) (eOrT (eTst (eBin oLe (eBin oIx (eVb 2) (eC (.int 0))) (eBin oIx (eVb 1) (eC (.int 0))))) (eTst (eBin oGe (eBin oIx (eVb 2) (eC (.int 1))) (eBin oIx (eVb 1) (eC (.int 1))))))) (sRet (eC (.bl false))) sNil)
    (sSet 1 (eV 2)))))
theorem b_so_eq : b__law_is_so = (sSeq (sIf (eNotT (eTru (eIsi2 "list" "tuple" (eVb 0)))) (sRet (eC (.bl false))) sNil)
    (sSeq (sSet 1 (eC .non))
    (sSeq (sFor (iD (eV 0)) (gN 2) soBody)
    (sRet (eC (.bl true)))))) := rfl
theorem isi2_any {d : D} (h : pd d = true) {env : Env} {f : EE} (hf : f env S = .ok d S) : Ev (eIsi2 "list" "tuple" f env S) Q = Q (.bl (seqD d).isSome) S := by
  rw [ev_eIsi2, Ev.of hf]
  cases d <;> first | (cases h; done) | (simp [withTy, isTy, seqD])
theorem pow106 : Ev (oPow (.int 10) (.int 6) S) Q = Q (.int 1000000) S := ev_oPow (by decide)
theorem ones_any (cs : List D) (h : pdAll cs = true) {env : Env} {x0 x1 x2 x3 : Option Slot} {QL : List D → Sto → Prop} : Ev (compGo (gN 3) (eOrT (eNotT (eTru (eIsi "int" (eVb 3)))) (eTru (eIsi "bool" (eVb 3)))) (eC (.int 1)) [x0, x1, x2, x3] cs S) QL = QL (((cs.filter fun d => !(intD d).isSome).map fun _ => (1 : Int)).map D.int) S := by
  rw [compGo_pureD (fun d => !(intD d).isSome) (fun _ => .int 1) cs fun d hd => by
    have hp := pdAll_mem h d hd
    cases d <;> first | (cases hp; done) | (simp [withTy, isTy, intD])]
  rw [List.map_map]
  rfl
theorem soBody_ev {d v : D} {a : Option D} {x3 : Option Slot} {nx bk ct : Env → Sto → Prop} {rt : D → Sto → Prop} (h : pd d = true) (ha : ∀ c, a = some c → okC c = true) :
    EvS (soBody [some (.sh v), some (.sh (a.getD .non)), some (.sh d), x3] S) nx rt bk ct = if (okC d && fallO (a.map pr) (pr d)) = true then nx [some (.sh v), some (.sh d), some (.sh d), x3] S else rt (.bl false) S := by
  unfold soBody
  simp only [↓es_seq, ↓es_if, ↓ev_eOrT, ↓ev_eNotT, ↓ev_eTru]
  rw [isi2_any h (f := eVb 2) (d := d) rfl]
  cases hs : seqD d with
  | none =>
    have hk : okC d = false := by unfold okC pairOk; rw [hs]; rfl
    simp [hk]
  | some cs =>
    have hd := pd_seq h hs
    have hw : ∀ k : List D → Prop, withSeq d k = k cs := fun k => by unfold withSeq; rw [hs]
    have hlen : ∀ Q : D → Sto → Prop, Ev (bLen [d] S) Q = Q (.int cs.length) S := fun Q => by
      cases d <;> first | (cases hs; done) | (cases hs; simp)
    simp only [Option.isSome_some, ↓wt_b, Bool.not_true, Bool.false_eq_true, if_false, ↓ev_eTst, ↓ev_eBin, ↓ev_eBlt, ↓ev_eCons, ↓ev_eVbs, ↓ev_eVb0, ↓ev_eNil, ↓hlen, ↓ev_eC, ↓neI2]
    by_cases h2 : cs.length = 2
    · obtain ⟨x, y, rfl⟩ : ∃ x y, cs = [x, y] := by
        match cs, h2 with
        | [x, y], _ => exact ⟨x, y, rfl⟩
      have i0 : ∀ Q : D → Sto → Prop, Ev (oIx d (.int 0) S) Q = Q x S := fun Q => by cases d <;> first | (cases hs; done) | (cases hs; exact Ev.of rfl)
      have i1 : ∀ Q : D → Sto → Prop, Ev (oIx d (.int 1) S) Q = Q y S := fun Q => by cases d <;> first | (cases hs; done) | (cases hs; exact Ev.of rfl)
      rw [show decide ((([x, y] : List D).length : Int) = 2) = true from rfl]
      simp only [Bool.not_true, Bool.false_eq_true, if_false, ↓ev_eLst, ↓ev_eComp, ↓ev_iD, ↓ev_eVs, ↓ev_eV0, ↓hw, ↓ww_0, ↓ww_s, ↓ws_0, ↓ws_s, ↓ev_eVbs, ↓ev_eVb0]
      rw [ones_any (env := []) [x, y] hd]
      simp only [↓ev_eDsp, ↓ev_eNil]
      cases hi : (intD x) with
      | none =>
        have hk : okC d = false := by unfold okC pairOk; rw [hs]; simp [hi, pairL, betw]
        refine (propext ⟨fun hh => ?_, fun hh => ⟨by decide, ?_⟩⟩)
        · have := hh.2
          simp [hi, ↓ne_ints, hk] at this ⊢
          exact this
        · simp [hi, ↓ne_ints, hk] at hh ⊢
          exact hh
      | some i =>
        cases hj : (intD y) with
        | none =>
          have hk : okC d = false := by unfold okC pairOk; rw [hs]; simp [hj, pairL, betw]
          refine (propext ⟨fun hh => ?_, fun hh => ⟨by decide, ?_⟩⟩)
          · have := hh.2
            simp [hi, hj, ↓ne_ints, hk] at this ⊢
            exact this
          · simp [hi, hj, ↓ne_ints, hk] at hh ⊢
            exact hh
        | some j =>
          have ex : x = .int i := by cases x <;> first | (cases hi; done) | (cases hi; rfl)
          have ey : y = .int j := by cases y <;> first | (cases hj; done) | (cases hj; rfl)
          subst ex ey
          have hpr : pr d = (i, j) := by unfold pr; rw [hs]
          have hk : okC d = (decide (1 ≤ i) && decide (i ≤ 1000000) && (decide (0 ≤ j) && decide (j ≤ 1000000)) && decide (j ≤ i)) := by
            unfold okC pairOk; rw [hs, hpr]; rfl
          have e0 : (([D.int i, D.int j].filter fun d => !(intD d).isSome).map fun _ => (1 : Int)) = [] := rfl
          rw [e0]
          have body : ∀ P : Prop, ((0 : Nat) ≤ 1000 ∧ P) = P := fun P => propext ⟨fun h => h.2, fun h => ⟨Nat.zero_le _, h⟩⟩
          rw [show (([] : List D).length ≤ 1000 ∧ _) = _ from body _]
          rw [show Ev (oNe (D.lst (List.map D.int [])) (D.lst []) S) _ = _ from ne_ints [] _]
          simp only [decide_true, Bool.not_true, Bool.false_eq_true, if_false, ↓es_nil, ↓es_seq, ↓es_if, ↓ev_eOrT, ↓ev_eNotT, ↓ev_eTst, ↓ev_eChain, ↓ev_eBin, ↓ev_eC, ↓ev_eVbs, ↓ev_eVb0, ↓i0, ↓i1, ↓pow106, ↓ev_oLe]
          by_cases c1 : 1 ≤ i
          · by_cases c2 : i ≤ 1000000
            · by_cases c3 : 0 ≤ j
              · by_cases c4 : j ≤ i
                · have c5 : j ≤ 1000000 := by omega
                  have hk' : okC d = true := by rw [hk]; simp [c1, c2, c3, c4, c5]
                  rw [hk', hpr]
                  simp only [c1, c2, c3, c4, decide_true, if_true, Bool.not_true, Bool.false_eq_true, if_false, ↓es_nil, ↓es_seq, ↓es_if, ↓ev_eAndT, ↓ev_eOrT, ↓ev_eTst, ↓ev_eBin, ↓ev_eC, ↓ev_eVbs, ↓ev_eVb0, ↓ev_oIsNot, Bool.true_and]
                  cases a with
                  | none => simp [fallO]
                  | some c =>
                    have hc := ha c rfl
                    unfold okC at hc
                    rw [Bool.and_eq_true] at hc
                    obtain ⟨u, w, mk, hm, e, e2, _⟩ := pairOk_pr hc.1
                    have j0 : ∀ Q : D → Sto → Prop, Ev (oIx c (.int 0) S) Q = Q (.int u) S := fun Q => by rw [e]; rcases hm with rfl | rfl <;> exact Ev.of rfl
                    have j1 : ∀ Q : D → Sto → Prop, Ev (oIx c (.int 1) S) Q = Q (.int w) S := fun Q => by rw [e]; rcases hm with rfl | rfl <;> exact Ev.of rfl
                    have hn : isNon c = false := by rw [e]; rcases hm with rfl | rfl <;> rfl
                    simp only [Option.getD_some, Option.map_some, fallO, hn, Bool.not_false, if_true, ↓i0, ↓i1, ↓j0, ↓j1, ↓ev_oLe, ↓ev_oGe, e2, fallB]
                    by_cases f1 : i ≤ u
                    · have : ¬ u < i := by omega
                      simp [f1, this]
                    · have g1 : u < i := by omega
                      by_cases f2 : w ≤ j
                      · have : ¬ j < w := by omega
                        simp [f1, f2, this]
                      · have g2 : j < w := by omega
                        simp [f1, f2, g1, g2]
                · have hk' : okC d = false := by rw [hk]; simp [c4]
                  simp [hk', c1, c2, c3, c4]
              · have hk' : okC d = false := by rw [hk]; simp [c3]
                simp [hk', c1, c2, c3]
            · have hk' : okC d = false := by rw [hk]; simp [c2]
              simp [hk', c1, c2]
          · have hk' : okC d = false := by rw [hk]; simp [c1]
            simp [hk', c1]
    · have hz : ¬ ((cs.length : Int) = 2) := by omega
      have hk : okC d = false := by
        unfold okC pairOk
        rw [hs]
        match cs, h2 with
        | [], _ => rfl
        | [_], _ => rfl
        | [_, _], h2 => exact absurd rfl h2
        | _ :: _ :: _ :: _, _ => rfl
      simp [hk, hz]
theorem isSo_any {d : D} (h : pd d = true) : Ev (φ__law_is_so [d] S) Q = Q (.bl (so d)) S := Ev.of (Ev.eq (by
  rw [e__law_is_so, b_so_eq]
  simp only [↓es_seq, ↓es_if, ↓ev_eNotT, ↓ev_eTru]
  rw [isi2_any h (f := eVb 0) (d := d) rfl]
  cases hs : seqD d with
  | none => simp [so, hs]
  | some cs =>
    have hd := pd_seq h hs
    have hw : ∀ k : List D → Prop, withSeq d k = k cs := fun k => by unfold withSeq; rw [hs]
    have hso : so d = soGo none cs := by unfold so; rw [hs]
    simp only [Option.isSome_some, ↓wt_b, Bool.not_true, Bool.false_eq_true, if_false, ↓es_nil, ↓es_set, ↓ev_eC, ↓ws_0, ↓ws_s, ↓es_for, ↓ev_iD, ↓ev_eV0, ↓hw]
    rw [hso]
    have go : ∀ (cs : List D) (a : Option D) (x2 x3 : Option Slot), pdAll cs = true → (∀ c, a = some c → okC c = true) → EvS (forGo (gN 2) soBody cs [some (.sh d), some (.sh (a.getD .non)), x2, x3] S) (fun e S' => EvS (sRet (eC (.bl true)) e S') (fun _ S' => D.non = D.bl (soGo (a.map pr) cs) ∧ S' = S) (fun b S' => b = D.bl (soGo (a.map pr) cs) ∧ S' = S) (fun _ _ => False) (fun _ _ => False)) (fun b S' => b = D.bl (soGo (a.map pr) cs) ∧ S' = S) (fun _ _ => False) (fun _ _ => False) := by
      intro cs
      induction cs with
      | nil =>
        intro a x2 x3 _ _
        rw [ev_forNil]
        simp only [↓es_ret, ↓ev_eC]
        first | exact ⟨rfl, rfl⟩ | exact ⟨rfl, trivial⟩
      | cons c cs ih =>
        intro a x2 x3 hcs ha
        have hc := pdAll_mem hcs c (by simp)
        rw [ev_forCons]
        simp only [↓wg_n, ↓ws_0, ↓ws_s]
        rw [soBody_ev hc ha]
        have e : soGo (a.map pr) (c :: cs) = (okC c && fallO (a.map pr) (pr c) && soGo (some (pr c)) cs) := rfl
        rw [e]
        have tl : pdAll cs = true := by
          have e' : (pd c && pdAll cs) = true := hcs
          rw [Bool.and_eq_true] at e'
          exact e'.2
        split
        · rename_i hk
          have ok : okC c = true := by rw [Bool.and_eq_true] at hk; exact hk.1
          have := ih (some c) (some (.sh c)) x3 tl (fun z hz => by cases hz; exact ok)
          rw [hk, Bool.true_and]
          exact this
        · rename_i hk
          rw [Bool.not_eq_true] at hk
          rw [hk]
          exact ⟨rfl, rfl⟩
    exact go cs none _ _ hd (fun c hc => by cases hc)))
end
end DL

namespace DL
open PySem PySem.Spec PyProof.Rows L2
section
variable {env : Env} {S : Sto} {f o k : EE} {l : EL} {i j m : Nat} {nx bk ct : Env → Sto → Prop} {rt : D → Sto → Prop}
theorem es_par : EvS (sPar i j l env S) nx rt bk ct = Ev (l env S) fun ds S => match ds with | [d, e] => withSet env i (some (.sh d)) fun env => withSet env j (some (.sh e)) fun env => nx env S | _ => False := by
  show EvS (Res.bind _ _) nx rt bk ct = _
  rw [evs_bind]
  congr 1
  funext ds S
  match ds with
  | [] => exact evs_no
  | [_] => exact evs_no
  | [d, e] => exact evs_nx
  | _ :: _ :: _ :: _ => exact evs_no
def withStore (S : Sto) (x i d : D) (k : Sto → Prop) : Prop := match x, i with
  | .mu n, .int j => (match S[n]? with
    | some ds => (match ixN ds.length j with
      | some t => k (S.set n (ds.set t d))
      | none => False)
    | none => False)
  | _, _ => False
theorem es_storeG : EvS (sStore f o k env S) nx rt bk ct = Ev (f env S) fun d S => Ev (o env S) fun x S => Ev (k env S) fun i S => withStore S x i d fun S => nx env S := by
  show EvS (Res.bind _ _) nx rt bk ct = _
  simp only [evs_bind]
  congr 1; funext d S; congr 1; funext x S; congr 1; funext i S
  cases x <;> cases i <;> first
    | exact evs_no
    | (rename_i n j
       show EvS (match S[n]? with | some ds => (match ixN ds.length j with | some t => .ok (.nx env) (S.set n (ds.set t d)) | none => .stuck) | none => .stuck) nx rt bk ct = match S[n]? with | some ds => (match ixN ds.length j with | some t => nx env (S.set n (ds.set t d)) | none => False) | none => False
       cases S[n]? with
       | none => exact evs_no
       | some ds =>
         show EvS (match ixN ds.length j with | some t => .ok (.nx env) (S.set n (ds.set t d)) | none => .stuck) nx rt bk ct = match ixN ds.length j with | some t => nx env (S.set n (ds.set t d)) | none => False
         cases ixN ds.length j with
         | none => exact evs_no
         | some t => exact evs_nx)
theorem es_retF : EvS (sRetF m i f env S) nx rt bk ct = Ev (f env S) fun d S1 => match res S1 m i d, resLL (resL (res S1 m i)) (S1.take m) with
  | some d', some S' => rt d' S'
  | _, _ => False := by
  show EvS (Res.bind _ _) nx rt bk ct = _
  rw [evs_bind]
  congr 1; funext d S1
  cases res S1 m i d <;> cases resLL (resL (res S1 m i)) (S1.take m) <;> first | exact evs_no | exact evs_rt
def withIns (S : Sto) (x i d : D) (k : Sto → Prop) : Prop := match x, i with
  | .mu n, .int j => (match S[n]? with
    | some ds => (ds.length ≤ 1000000 ∧ 0 ≤ j ∧ j < 1000000000) ∧ k (S.set n (ds.take j.toNat ++ [d] ++ ds.drop j.toNat))
    | none => False)
  | _, _ => False
theorem es_ins : EvS (sIns o k f env S) nx rt bk ct = Ev (o env S) fun x S => Ev (k env S) fun i S => Ev (f env S) fun d S => withIns S x i d fun S => nx env S := by
  show EvS (Res.bind _ _) nx rt bk ct = _
  simp only [evs_bind]
  congr 1; funext x S; congr 1; funext i S; congr 1; funext d S
  cases x <;> cases i <;> first
    | exact evs_no
    | (rename_i n j
       show EvS (match S[n]? with | some ds => (if ds.length ≤ 1000000 ∧ 0 ≤ j ∧ j < 1000000000 then .ok (.nx env) (S.set n (ds.take j.toNat ++ [d] ++ ds.drop j.toNat)) else .stuck) | none => .stuck) nx rt bk ct = match S[n]? with | some ds => (ds.length ≤ 1000000 ∧ 0 ≤ j ∧ j < 1000000000) ∧ nx env (S.set n (ds.take j.toNat ++ [d] ++ ds.drop j.toNat)) | none => False
       cases S[n]? with
       | none => exact evs_no
       | some ds =>
         show Ev (if _ then _ else _) _ = _
         rw [ev_stk]
         congr 1
         exact evs_nx)
theorem ev_compCons {g : GE} {d : D} {ds : List D} {QL : List D → Sto → Prop} : Ev (compGo g eYes f env (d :: ds) S) QL = withG g d env fun e => Ev (f e S) fun y S => Ev (compGo g eYes f env ds S) fun ys S => QL (y :: ys) S := by
  show Ev (match g d env with | none => Res.stuck | some e => (eYes e S).bind fun k S => if k = true then (f e S).bind fun y S => (compGo g eYes f env ds S).bind fun ys S => .ok (y :: ys) S else compGo g eYes f env ds S) QL = _
  unfold withG
  cases g d env with
  | none => exact ev_no
  | some e =>
    show Ev (Res.bind (f e S) _) QL = _
    simp only [Ev.bind, ev_ok]
theorem ev_eRev {S : Sto} {QL : List D → Sto → Prop} {d : D} {ds : List D} (h : f env S = .ok d S) (hs : seqL S d = some ds) : Ev (eRev f env S) QL = QL ds.reverse S := Ev.of (by
  show Res.bind _ _ = _
  rw [h]
  show (match seqL S d with | some ds => Res.ok ds.reverse S | none => .stuck) = _
  rw [hs])
theorem ev_eCatM {QL : List D → Sto → Prop} : Ev (eCatM f l env S) QL = Ev (f env S) fun x S => Ev (l env S) fun ys S => match x with
  | .mu n => (match S[n]? with
    | some xs => xs.length + ys.length ≤ 1000000 ∧ QL (xs ++ ys) S
    | none => False)
  | _ => False := by
  show Ev (Res.bind _ _) QL = _
  simp only [Ev.bind]
  congr 1; funext x S; congr 1; funext ys S
  cases x <;> first
    | exact ev_no
    | (rename_i n
       show Ev (match S[n]? with | some xs => if xs.length + ys.length ≤ 1000000 then .ok (xs ++ ys) S else .stuck | none => .stuck) QL = match S[n]? with | some xs => xs.length + ys.length ≤ 1000000 ∧ QL (xs ++ ys) S | none => False
       cases S[n]? with
       | none => exact ev_no
       | some xs =>
         show Ev (if _ then _ else _) _ = _
         rw [ev_stk, ev_ok])
theorem ev_eSlS {u v : Option Int} {QL : List D → Sto → Prop} : Ev (eSlS f (fun _ S => .ok u S) (fun _ S => .ok v S) env S) QL = Ev (f env S) fun d S => match seqL S d with
  | some ds => QL (cutD ds u v) S | none => False := by
  show Ev (Res.bind _ _) QL = _
  rw [Ev.bind]
  congr 1; funext d S
  show Ev (match seqL S d with | some ds => .ok (cutD ds u v) S | none => .stuck) QL = _
  cases seqL S d <;> first | exact ev_no | exact Ev.of rfl
theorem ev_dct0 {Q : D → Sto → Prop} : Ev (eDct0 env S) Q = Q (.dct [] []) S := Ev.of rfl
end
/-! ### what a datum of the store becomes -/
def Fl (S : Sto) (k : Nat) (d : D) : Prop := ∃ d', res S 1 k d = some d' ∧ pd d' = true
section
variable {S R : Sto} {k : Nat}
theorem resL_fl : ∀ {ds : List D}, (∀ x ∈ ds, Fl S k x) → ∃ xs, resL (res S 1 k) ds = some xs ∧ pdAll xs = true
  | [], _ => ⟨[], rfl, rfl⟩
  | d :: ds, h => by
    obtain ⟨x, e1, p1⟩ := h d (by simp)
    obtain ⟨xs, e2, p2⟩ := resL_fl (ds := ds) fun y hy => h y (by simp [hy])
    refine ⟨x :: xs, ?_, by show (pd x && pdAll xs) = true; rw [p1, p2]; rfl⟩
    show (res S 1 k d).bind _ = _
    rw [e1]
    show (resL (res S 1 k) ds).bind _ = _
    rw [e2]
    rfl
theorem Fl.lst {ds : List D} (h : ∀ x ∈ ds, Fl S k x) : Fl S (k + 1) (.lst ds) := by
  obtain ⟨xs, e, p⟩ := resL_fl h
  exact ⟨.lst xs, by show (resL (res S 1 k) ds).map D.lst = _; rw [e]; rfl, p⟩
theorem Fl.tup {ds : List D} (h : ∀ x ∈ ds, Fl S k x) : Fl S (k + 1) (.tup ds) := by
  obtain ⟨xs, e, p⟩ := resL_fl h
  exact ⟨.tup xs, by show (resL (res S 1 k) ds).map D.tup = _; rw [e]; rfl, p⟩
theorem Fl.dct {ks ds : List D} (h : ∀ x ∈ ds, Fl S k x) : Fl S (k + 1) (.dct ks ds) := by
  obtain ⟨xs, e, p⟩ := resL_fl h
  exact ⟨.dct ks xs, by show (resL (res S 1 k) ds).map (D.dct ks) = _; rw [e]; rfl, rfl⟩
theorem Fl.mu {n : Nat} {ds : List D} (hn : 1 ≤ n) (e : S[n]? = some ds) (h : ∀ x ∈ ds, Fl S k x) : Fl S (k + 1) (.mu n) := by
  obtain ⟨xs, e1, p⟩ := resL_fl h
  refine ⟨.lst xs, ?_, p⟩
  show (if n < 1 then some (D.mu n) else (S[n]?).bind fun ds => (resL (res S 1 k) ds).map D.lst) = _
  rw [if_neg (by omega), e]
  show (resL (res S 1 k) ds).map D.lst = _
  rw [e1]
  rfl
theorem Fl.int (i : Int) : Fl S (k + 1) (.int i) := ⟨_, rfl, rfl⟩
theorem Fl.bl (i : Bool) : Fl S (k + 1) (.bl i) := ⟨_, rfl, rfl⟩
theorem Fl.str (i : Str) : Fl S (k + 1) (.str i) := ⟨_, rfl, rfl⟩
theorem Fl.non : Fl S (k + 1) .non := ⟨_, rfl, rfl⟩
theorem forall_nilD {P : D → Prop} : ∀ x ∈ ([] : List D), P x := fun x h => absurd h (by simp)
theorem forall_consD {P : D → Prop} {d : D} {ds : List D} (h : P d) (q : ∀ x ∈ ds, P x) : ∀ x ∈ d :: ds, P x := fun x hx => by
  rcases List.mem_cons.mp hx with r | r
  · rw [r]; exact h
  · exact q x r
theorem res_ints (cells : List Int) : resL (res S 1 (k + 1)) (cells.map D.int) = some (cells.map D.int) := by
  induction cells with
  | nil => rfl
  | cons c cs ih =>
    show (some (D.int c)).bind (fun x => (resL (res S 1 (k + 1)) (cs.map D.int)).bind fun xs => some (x :: xs)) = _
    rw [ih]
    rfl
theorem pen_cut {n : Int} (h : PenR R n S) : ∃ S', resLL (resL (res S 1 4)) (S.take 1) = some S' ∧ PenOk n S' := by
  obtain ⟨cells, t, rest, e, h1, h2, h3⟩ := h
  refine ⟨[[.lst (cells.map .int), .int t, .int rest]], ?_, cells, t, rest, rfl, h1, h2, h3⟩
  rw [show S.take 1 = [[.lst (cells.map .int), .int t, .int rest]] by rw [e]; rfl]
  show (resL (res S 1 4) [.lst (cells.map .int), .int t, .int rest]).bind _ = _
  show ((resL (res S 1 3) (cells.map .int)).map D.lst |>.bind _).bind _ = _
  rw [res_ints]
  rfl
theorem retF_k {n : Int} {d : D} {rt : D → Sto → Prop} (h : PenR R n S) (hd : Fl S 4 d) (q : ∀ d' S', pd d' = true → PenOk n S' → rt d' S') : (match res S 1 4 d, resLL (resL (res S 1 4)) (S.take 1) with
  | some d', some S' => rt d' S'
  | _, _ => False) := by
  obtain ⟨d', e, p⟩ := hd
  obtain ⟨S', e2, p2⟩ := pen_cut h
  rw [e, e2]
  exact q d' S' p p2
/-! ### the rows -/
abbrev rowsOf (s : List P2) : Sto := s.map fun p => [D.int p.1, .int p.2]
abbrev outerOf (n : Nat) : List D := (List.range n).map fun i => D.mu (1 + i)
structure RowsOk (n : Nat) (R : Sto) : Prop where
  row : ∀ i, i < n → ∃ row, R[i]? = some row ∧ ∀ x ∈ row, ∀ S, Fl S 2 x
  out : ∃ outer, R[n]? = some outer ∧ ∀ x ∈ outer, (∃ i, i < n ∧ x = .mu (1 + i)) ∨ ∀ S, Fl S 3 x
theorem rows_at (s : List P2) {j : Nat} (hj : j < s.length) (X : Sto) : (rowsOf s ++ X)[j]? = some [.int s[j].1, .int s[j].2] := by
  rw [List.getElem?_append_left (by rw [List.length_map]; exact hj), List.getElem?_map, List.getElem?_eq_getElem hj]
  rfl
theorem rows_out (s : List P2) : (rowsOf s ++ [outerOf s.length])[s.length]? = some (outerOf s.length) := by
  rw [List.getElem?_append_right (by rw [List.length_map]; exact Nat.le_refl _), List.length_map, Nat.sub_self]
  rfl
theorem RowsOk.start (s : List P2) : RowsOk s.length (rowsOf s ++ [outerOf s.length]) := ⟨fun i hi => ⟨_, rows_at s hi _, fun x hx S => by
    rcases List.mem_cons.mp hx with r | r
    · rw [r]; exact Fl.int _
    · rw [List.mem_singleton.mp r]; exact Fl.int _⟩, ⟨_, rows_out s, fun x hx => by
    obtain ⟨i, hi, e⟩ := List.mem_map.mp hx
    exact .inl ⟨i, List.mem_range.mp hi, e.symm⟩⟩⟩
theorem RowsOk.item {n : Nat} {m : Int} (h : RowsOk n R) (p : PenR R m S) {x : D} (hx : (∃ i, i < n ∧ x = .mu (1 + i)) ∨ ∀ S, Fl S 3 x) : Fl S 3 x := by
  obtain ⟨_, _, _, e, _⟩ := p
  rcases hx with ⟨i, hi, rfl⟩ | q
  · obtain ⟨row, e1, e2⟩ := h.row i hi
    exact Fl.mu (by omega) (by rw [e, Nat.add_comm, List.getElem?_cons_succ]; exact e1) fun x hx => e2 x hx S
  · exact q S
theorem RowsOk.some {n : Nat} {m : Int} (h : RowsOk n R) (p : PenR R m S) : Fl S 4 (.mu (1 + n)) := by
  obtain ⟨outer, e1, e2⟩ := h.out
  have p0 := p
  obtain ⟨_, _, _, e, _⟩ := p
  exact Fl.mu (by omega) (by rw [e, Nat.add_comm, List.getElem?_cons_succ]; exact e1) fun x hx => h.item p0 (e2 x hx)
theorem RowsOk.setRow {n j : Nat} {row : List D} (h : RowsOk n R) (hj : j < n) (hr : ∀ x ∈ row, ∀ S, Fl S 2 x) : RowsOk n (R.set j row) := ⟨fun i hi => by
    obtain ⟨r, e1, e2⟩ := h.row i hi
    by_cases hij : j = i
    · subst hij
      exact ⟨row, by rw [List.getElem?_set_self (List.getElem?_eq_some_iff.mp e1).1], hr⟩
    · exact ⟨r, by rw [List.getElem?_set_ne hij]; exact e1, e2⟩, by
    obtain ⟨o, e1, e2⟩ := h.out
    exact ⟨o, by rw [List.getElem?_set_ne (by omega)]; exact e1, e2⟩⟩
theorem RowsOk.setOut {n : Nat} {out : List D} (h : RowsOk n R) (hr : ∀ x ∈ out, (∃ i, i < n ∧ x = .mu (1 + i)) ∨ ∀ S, Fl S 3 x) : RowsOk n (R.set n out) := ⟨fun i hi => by
    obtain ⟨r, e1, e2⟩ := h.row i hi
    exact ⟨r, by rw [List.getElem?_set_ne (by omega)]; exact e1, e2⟩, by
    obtain ⟨o, e1, e2⟩ := h.out
    exact ⟨out, by rw [List.getElem?_set_self (List.getElem?_eq_some_iff.mp e1).1], hr⟩⟩
theorem PenR.set {m : Int} {i : Nat} {ds : List D} (h : PenR R m S) : PenR (R.set i ds) m (S.set (1 + i) ds) := by
  obtain ⟨c, t, r, e, h1, h2, h3⟩ := h
  refine ⟨c, t, r, ?_, h1, h2, h3⟩
  rw [e, Nat.add_comm, List.set_cons_succ]
theorem PenR.at_ {m : Int} {i : Nat} (h : PenR R m S) : S[1 + i]? = R[i]? := by
  obtain ⟨c, t, r, e, h1, h2, h3⟩ := h
  rw [e, Nat.add_comm, List.getElem?_cons_succ]
theorem mapMu {x0 x1 x2 x3 x5 : Option Slot} : ∀ (s : List P2) (S : Sto) (QL : List D → Sto → Prop), Ev (compGo (gN 4) eYes (eMu (eBltN bList (eCons (eVb 4) eNil))) [x0, x1, x2, x3, none, x5] (s.map dPair) S) QL = QL ((List.range s.length).map fun i => .mu (S.length + i)) (S ++ rowsOf s)
  | [], S, QL => by
    rw [List.map_nil, show S ++ rowsOf [] = S from List.append_nil S]
    exact Ev.of rfl
  | p :: s, S, QL => by
    rw [List.map_cons, ev_compCons]
    simp only [↓wg_n, ↓ws_0, ↓ws_s, ↓ev_eMu, ↓ev_eBltN, ↓ev_eCons, ↓ev_eVbs, ↓ev_eVb0, ↓ev_eNil]
    have : ∀ QL : List D → Sto → Prop, Ev (bList [dPair p] S) QL = QL [.int p.1, .int p.2] S := fun QL => Ev.of rfl
    rw [this, mapMu (x0 := x0) (x1 := x1) (x2 := x2) (x3 := x3) (x5 := x5) s]
    rw [List.length_cons, List.range_succ_eq_map, List.map_cons, List.map_map, List.length_append, List.append_assoc]
    have e : ((List.range s.length).map fun i => D.mu (S.length + [[D.int p.1, D.int p.2]].length + i)) = (List.range s.length).map ((fun i => D.mu (S.length + i)) ∘ Nat.succ) := by
      refine List.map_congr_left fun i _ => ?_
      show D.mu (S.length + 1 + i) = D.mu (S.length + (i + 1))
      rw [show S.length + 1 + i = S.length + (i + 1) by omega]
    rw [e]
    rfl
end
end DL

namespace DL
open PySem PySem.Spec PyProof.Rows L2
section
variable {S R : Sto} {Q : D → Sto → Prop} {n m : Int}
theorem wStore {i t : Nat} {j : Int} {ds : List D} {d : D} {k : Sto → Prop} (p : PenR R m S) (e : R[i]? = some ds) (ht : ixN ds.length j = some t) : withStore S (.mu (1 + i)) (.int j) d k = k (S.set (1 + i) (ds.set t d)) := by
  unfold withStore
  show (match S[1 + i]? with | some ds => (match ixN ds.length j with | some t => k (S.set (1 + i) (ds.set t d)) | none => False) | none => False) = _
  rw [p.at_, e]
  show (match ixN ds.length j with | some t => k (S.set (1 + i) (ds.set t d)) | none => False) = _
  rw [ht]
theorem wIns {i : Nat} {j : Int} {ds : List D} {d : D} {k : Sto → Prop} (p : PenR R m S) (e : R[i]? = some ds) (hl : ds.length ≤ 1000000) (h0 : 0 ≤ j) (h1 : j < 1000000000) : withIns S (.mu (1 + i)) (.int j) d k = k (S.set (1 + i) (ds.take j.toNat ++ [d] ++ ds.drop j.toNat)) := by
  unfold withIns
  show (match S[1 + i]? with | some ds => (ds.length ≤ 1000000 ∧ 0 ≤ j ∧ j < 1000000000) ∧ k (S.set (1 + i) (ds.take j.toNat ++ [d] ++ ds.drop j.toNat)) | none => False) = _
  rw [p.at_, e]
  exact propext ⟨fun h => h.2, fun h => ⟨⟨hl, h0, h1⟩, h⟩⟩
theorem ixMu {i : Nat} {j : Int} {ds : List D} {d : D} (p : PenR R m S) (e : R[i]? = some ds) (h : atI ds j = some d) (Q : D → Sto → Prop) : Ev (oIx (.mu (1 + i)) (.int j) S) Q = Q d S := Ev.of (by
  show (match (S[1 + i]?).bind fun ds => atI ds j with | some d => Res.ok d S | none => .stuck) = _
  rw [p.at_, e]
  show (match atI ds j with | some d => Res.ok d S | none => .stuck) = _
  rw [h])
theorem bent_k {s : List P2} (hs : s ≠ []) (hl : s.length ≤ 200) (h : PenOk n S) (hn : n < 1000000) (q : ∀ d S', pd d = true → PenOk (n + 6) S' → Q d S') : Ev (φ__law_bent [.mu 0, dStair s] S) Q := by
  have h1 : S.length = 1 := by obtain ⟨_, _, _, rfl, _⟩ := h; rfl
  have hpos := List.length_pos_iff.mpr hs
  rw [e__law_bent h1]
  unfold b__law_bent
  rw [show dStair s = .tup (s.map dPair) from rfl]
  have ltD : ∀ {S : Sto} (Q : D → Sto → Prop), Ev (bLen [.tup (s.map dPair)] S) Q = Q (.int s.length) S := fun Q => by simp
  simp only [↓es_seq, ↓es_par, ↓ev_eCons, ↓ev_eMu, ↓ev_eComp, ↓ev_iD, ↓ev_eVs, ↓ev_eV0, ↓wq_t, ↓ww_0, ↓ww_s, ↓ws_0, ↓ws_s, ↓mapMu, ↓ev_eCall, ↓ev_eBlt, ↓ev_eVbs, ↓ev_eVb0, ↓ev_eNil, ↓ltD]
  have e0 : (S ++ rowsOf s).length = 1 + s.length := by rw [List.length_append, h1, List.length_map]
  have e1 : (List.range s.length).map (fun i => D.mu (S.length + i)) = outerOf s.length := by rw [h1]
  have p1 : PenR (rowsOf s ++ [outerOf s.length]) n (S ++ rowsOf s ++ [(List.range s.length).map fun i => D.mu (S.length + i)]) := by
    obtain ⟨cells, t, rest, e, r⟩ := h
    refine ⟨cells, t, rest, ?_, r⟩
    rw [e1, e]
    simp
  rw [e0]
  generalize S ++ rowsOf s ++ [(List.range s.length).map fun i => D.mu (S.length + i)] = S1 at p1 ⊢
  clear e0 e1 h h1
  refine draw_k p1 (by omega) (by omega) (by omega) fun x S2 x0 x1 p2 => ?_
  obtain ⟨j, rfl⟩ := Int.eq_ofNat_of_zero_le x0
  have hj : j < s.length := by omega
  simp only [↓ws_0, ↓ws_s, ↓es_set, ↓ev_eCall, ↓ev_eCons, ↓ev_eV0, ↓ev_eC, ↓ev_eNil]
  refine draw_k p2 (by omega) (by omega) (by omega) fun w S3 w0 w1 p3 => ?_
  have rO := rows_out s
  have rJ : (rowsOf s ++ [outerOf s.length])[j]? = some [.int s[j].1, .int s[j].2] := rows_at s hj _
  have ok0 := RowsOk.start s
  generalize hR : rowsOf s ++ [outerOf s.length] = R0 at *
  have aJ : atI (outerOf s.length) (j : Int) = some (.mu (1 + j)) := atI_nat (by rw [List.getElem?_map, List.getElem?_range hj]; rfl)
  have iO : ∀ {m : Int} {S : Sto} (p : PenR R0 m S) (Q : D → Sto → Prop), Ev (oIx (.mu (1 + s.length)) (.int (j : Int)) S) Q = Q (.mu (1 + j)) S := fun p Q => ixMu p rO aJ Q
  have i0 : ∀ {m : Int} {S : Sto} (p : PenR R0 m S) (Q : D → Sto → Prop), Ev (oIx (.mu (1 + j)) (.int 0) S) Q = Q (.int s[j].1) S := fun p Q => ixMu p rJ (atI_nat (j := 0) rfl) Q
  have i1 : ∀ {m : Int} {S : Sto} (p : PenR R0 m S) (Q : D → Sto → Prop), Ev (oIx (.mu (1 + j)) (.int 1) S) Q = Q (.int s[j].2) S := fun p Q => ixMu p rJ (atI_nat (j := 1) rfl) Q
  have p106 : ∀ {S : Sto} (Q : D → Sto → Prop), Ev (oPow (.int 10) (.int 6) S) Q = Q (.int 1000000) S := fun Q => pow106
  have hin : ∀ x ∈ outerOf s.length, (∃ i, i < s.length ∧ x = .mu (1 + i)) ∨ ∀ S, Fl S 3 x := fun x hx => by
    obtain ⟨i, hi, e⟩ := List.mem_map.mp hx
    exact .inl ⟨i, List.mem_range.mp hi, e.symm⟩
  have rowF : ∀ (t : Nat) (d : D), (∀ S, Fl S 2 d) → ∀ x ∈ [D.int s[j].1, .int s[j].2].set t d, ∀ S, Fl S 2 x := fun t d hd x hx S => by
    rcases List.mem_or_eq_of_mem_set hx with r | r
    · rcases List.mem_cons.mp r with z | z
      · rw [z]; exact Fl.int _
      · rw [List.mem_singleton.mp z]; exact Fl.int _
    · rw [r]; exact hd S
  have fin : ∀ {R : Sto} {m : Int} {S : Sto} {d : D}, PenR R m S → m ≤ n + 6 → Fl S 4 d → (match res S 1 4 d, resLL (resL (res S 1 4)) (S.take 1) with
      | some d', some S' => Q d' S'
      | _, _ => False) := fun p hm f => retF_k p f fun d' S' a b => q d' S' a (b.mono hm)
  simp only [↓ws_0, ↓ws_s, ↓es_seq, ↓es_if, ↓ev_eTst, ↓ev_eBin, ↓ev_eVbs, ↓ev_eVb0, ↓ev_eC, ↓ev_oLt, ↓eqI2]
  by_cases a4 : w < 4
  · simp only [a4, decide_true, if_true, ↓es_storeG, ↓ev_eCall, ↓ev_eCons, ↓ev_eV0, ↓ev_eVs, ↓ev_eLst, ↓ev_eDsp, ↓ev_eC, ↓ev_eNegI, ↓ev_eBin, ↓ev_eVbs, ↓ev_eVb0, ↓ev_eNil, ↓iO p3, ↓i0 p3, ↓i1 p3, ↓ev_oAdd, ↓p106]
    refine ⟨by show 7 ≤ 1000; decide, ?_⟩
    refine pick_k p3 (by omega) (by simp) (by simp) fun d S4 hd p4 => ?_
    have hd2 : ∀ S, Fl S 2 d := fun S => by
      simp only [List.mem_cons, List.not_mem_nil, or_false] at hd
      rcases hd with rfl | rfl | rfl | rfl | rfl | rfl | rfl <;> exact Fl.int _
    have hw2 : ∃ t, ixN 2 (w % 2) = some t := by
      have : w % 2 = 0 ∨ w % 2 = 1 := by omega
      rcases this with e | e <;> rw [e]
      · exact ⟨0, rfl⟩
      · exact ⟨1, rfl⟩
    obtain ⟨t, ht⟩ := hw2
    simp only [↓ev_eBin, ↓ev_eVbs, ↓ev_eVb0, ↓iO p4, ↓ev_eBlt, ↓ev_eCons, ↓ev_eNil, ↓ev_intI, ↓ev_eC, ↓ev_oMod (show (0 : Int) < 2 by omega)]
    rw [wStore p4 rJ ht]
    simp only [↓es_retF, ↓ev_eV0, ↓ev_eVs]
    exact fin p4.set (by omega) ((ok0.setRow hj (rowF t d hd2)).some p4.set)
  · simp only [a4, decide_false, Bool.false_eq_true, if_false, ↓es_if, ↓ev_eTst, ↓ev_eBin, ↓ev_eVbs, ↓ev_eVb0, ↓ev_eC, ↓eqI2]
    by_cases b4 : w = 4
    · simp only [b4, decide_true, if_true, ↓es_set, ↓ev_eLst]
      obtain ⟨outer, o1, o2⟩ := ok0.out
      rw [ev_eRev (d := .mu (1 + s.length)) (ds := outer) rfl (by show S3[1 + s.length]? = _; rw [p3.at_]; exact o1)]
      simp only [↓ws_0, ↓ws_s, ↓es_retF, ↓ev_eV0, ↓ev_eVs]
      exact fin p3 (by omega) (Fl.lst fun x hx => ok0.item p3 (o2 x (List.mem_reverse.mp hx)))
    · simp only [b4, decide_false, Bool.false_eq_true, if_false, ↓es_if, ↓ev_eTst, ↓ev_eBin, ↓ev_eVbs, ↓ev_eVb0, ↓ev_eC, ↓eqI2]
      have so4 : S3[1 + s.length]? = some (outerOf s.length) := by rw [p3.at_]; exact rO
      have ol : (outerOf s.length).length = s.length := by rw [List.length_map, List.length_range]
      by_cases b5 : w = 5
      · simp only [b5, decide_true, if_true, ↓es_set, ↓ev_eLst, ↓ev_eCatM, ↓ev_eVs, ↓ev_eV0, ↓ev_eDsp, ↓ev_eCons, ↓ev_eBin, ↓ev_eVbs, ↓ev_eVb0, ↓iO p3, ↓ev_eNil]
        refine ⟨by show 1 ≤ 1000; decide, ?_⟩
        rw [so4]
        refine ⟨by rw [ol]; show s.length + 1 ≤ 1000000; omega, ?_⟩
        simp only [↓ws_0, ↓ws_s, ↓es_retF, ↓ev_eV0, ↓ev_eVs]
        refine fin p3 (by omega) (Fl.lst fun x hx => ok0.item p3 ?_)
        rcases List.mem_append.mp hx with r | r
        · exact hin x r
        · exact .inl ⟨j, hj, List.mem_singleton.mp r⟩
      · simp only [b5, decide_false, Bool.false_eq_true, if_false, ↓es_if, ↓ev_eTst, ↓ev_eBin, ↓ev_eVbs, ↓ev_eVb0, ↓ev_eC, ↓eqI2]
        by_cases b6 : w = 6
        · simp only [b6, decide_true, if_true, ↓es_storeG, ↓ev_eCall, ↓ev_eCons, ↓ev_eV0, ↓ev_eVs, ↓ev_eLst, ↓ev_eDsp, ↓ev_eC, ↓ev_eTup, ↓ev_eNil]
          refine ⟨by decide, by decide, by decide, ?_⟩
          refine pick_k p3 (by omega) (by simp) (by simp) fun d S4 hd p4 => ?_
          have hd2 : ∀ S, Fl S 2 d := fun S => by
            simp only [List.mem_cons, List.not_mem_nil, or_false] at hd
            rcases hd with rfl | rfl | rfl | rfl | rfl | rfl
            · exact Fl.bl _
            · exact Fl.non
            · exact Fl.str _
            · exact Fl.tup (forall_consD (Fl.int _) forall_nilD)
            · exact Fl.bl _
            · exact Fl.lst forall_nilD
          simp only [↓ev_eBin, ↓ev_eVbs, ↓ev_eVb0, ↓iO p4, ↓ev_eCall, ↓ev_eCons, ↓ev_eV0, ↓ev_eVs, ↓ev_eC, ↓ev_eNil]
          refine draw_k p4 (by omega) (by omega) (by omega) fun y S5 y0 y1 p5 => ?_
          have hy2 : ∃ t, ixN 2 y = some t := by
            have : y = 0 ∨ y = 1 := by omega
            rcases this with e | e <;> rw [e]
            · exact ⟨0, rfl⟩
            · exact ⟨1, rfl⟩
          obtain ⟨t, ht⟩ := hy2
          rw [wStore p5 rJ ht]
          simp only [↓es_retF, ↓ev_eV0, ↓ev_eVs]
          exact fin p5.set (by omega) ((ok0.setRow hj (rowF t d hd2)).some p5.set)
        · simp only [b6, decide_false, Bool.false_eq_true, if_false, ↓es_if, ↓ev_eTst, ↓ev_eBin, ↓ev_eVbs, ↓ev_eVb0, ↓ev_eC, ↓eqI2]
          by_cases b7 : w = 7
          · have so5 : S3[1 + j]? = some [.int s[j].1, .int s[j].2] := by rw [p3.at_]; exact rJ
            have dk : ∀ (env : Env) (S : Sto) (Q : D → Sto → Prop), Ev (eDctK [((eC (.int 1)), (eC (.int 0))), ((eC (.int 2)), (eC (.int 0)))] env S) Q = Q (.dct [.int 1, .int 2] [.int 0, .int 0]) S := fun env S Q => Ev.of (by
              simp [eDctK, evP, keysOf, keyOf, eC, Res.bind])
            simp only [b7, decide_true, if_true, ↓es_storeG, ↓ev_eCall, ↓ev_eCons, ↓ev_eV0, ↓ev_eVs, ↓ev_eLst, ↓ev_eDsp, ↓ev_eCatM, ↓ev_eBin, ↓ev_eVbs, ↓ev_eVb0, ↓iO p3, ↓ev_eC, ↓ev_eNil, so5, oSo_int, oNo_eq, ↓ev_eSlS, seqL, ↓ev_dct0, ↓dk]
            refine ⟨by decide, by show 3 ≤ 1000000; decide, by show 7 ≤ 1000; decide, ?_⟩
            refine pick_k p3 (by omega) (by simp) (by simp) fun d S4 hd p4 => ?_
            have hc : cutD [D.int s[j].1, .int s[j].2] none (some 1) = [.int s[j].1] := rfl
            have hd3 : ∀ S, Fl S 3 d := fun S => by
              rw [hc] at hd
              simp only [List.mem_cons, List.not_mem_nil, or_false] at hd
              rcases hd with rfl | rfl | rfl | rfl | rfl | rfl | rfl
              · exact Fl.lst (forall_consD (Fl.int _) (forall_consD (Fl.int _) (forall_consD (Fl.int _) forall_nilD)))
              · exact Fl.lst (forall_consD (Fl.int _) forall_nilD)
              · exact Fl.non
              · exact Fl.int _
              · exact Fl.str _
              · exact Fl.dct forall_nilD
              · exact Fl.dct (forall_consD (Fl.int _) (forall_consD (Fl.int _) forall_nilD))
            have ht : ixN (outerOf s.length).length (j : Int) = some j := by
              rw [ol]
              unfold ixN
              rw [if_pos (by omega), if_pos (by omega)]
              rfl
            try simp only [↓ev_eV0, ↓ev_eVs]
            rw [wStore p4 rO ht]
            simp only [↓es_retF, ↓ev_eV0, ↓ev_eVs]
            refine fin p4.set (by omega) ((ok0.setOut fun x hx => ?_).some p4.set)
            rcases List.mem_or_eq_of_mem_set hx with r | r
            · exact hin x r
            · rw [r]; exact .inr hd3
          · simp only [b7, decide_false, Bool.false_eq_true, if_false, ↓es_if, ↓ev_eTst, ↓ev_eBin, ↓ev_eVbs, ↓ev_eVb0, ↓ev_eC, ↓eqI2]
            by_cases b8 : w = 8
            · have d1 : ∀ (env : Env) (S : Sto) (Q : D → Sto → Prop), Ev (eDct1T (eCons (eC (.int 5)) (eCons (eC (.int 1)) eNil)) (eC (.int 0)) env S) Q = Q (.dct [.tup [.int 5, .int 1]] [.int 0]) S := fun env S Q => Ev.of rfl
              simp only [b8, decide_true, if_true, ↓es_retF, ↓ev_eCall, ↓ev_eCons, ↓ev_eV0, ↓ev_eVs, ↓ev_eLst, ↓ev_eDsp, ↓ev_eTup, ↓ev_eC, ↓ev_eNil, ↓ev_dct0, ↓d1]
              refine ⟨by decide, by decide, by decide, by decide, ?_⟩
              refine pick_k p3 (by omega) (by simp) (by simp) fun d S4 hd p4 => ?_
              refine fin p4 (by omega) ?_
              simp only [List.mem_cons, List.not_mem_nil, or_false] at hd
              rcases hd with rfl | rfl | rfl | rfl | rfl | rfl | rfl | rfl
              · exact Fl.non
              · exact Fl.int _
              · exact Fl.str _
              · exact Fl.dct forall_nilD
              · exact Fl.dct (forall_consD (Fl.int _) forall_nilD)
              · exact Fl.bl _
              · exact Fl.tup (forall_consD (Fl.str _) (forall_consD (Fl.str _) forall_nilD))
              · exact Fl.lst (forall_consD (Fl.tup (forall_consD (Fl.int _) (forall_consD (Fl.int _) forall_nilD))) (forall_consD Fl.non forall_nilD))
            · simp only [b8, decide_false, Bool.false_eq_true, if_false, ↓es_if, ↓ev_eTst, ↓ev_eBin, ↓ev_eVbs, ↓ev_eVb0, ↓ev_eC, ↓eqI2]
              by_cases b9 : w = 9
              · simp only [b9, decide_true, if_true, ↓es_ins, ↓ev_eV0, ↓ev_eVs, ↓ev_eLst, ↓ev_eDsp, ↓ev_eCons, ↓ev_eBin, ↓ev_eVbs, ↓ev_eVb0, ↓ev_eC, ↓iO p3, ↓i0 p3, ↓i1 p3, ↓ev_oAdd, ↓ev_eNil]
                refine ⟨by show 2 ≤ 1000; decide, ?_⟩
                rw [wIns p3 rO (by rw [ol]; omega) (by omega) (by omega)]
                simp only [↓es_retF, ↓ev_eV0, ↓ev_eVs]
                refine fin p3.set (by omega) ((ok0.setOut fun x hx => ?_).some p3.set)
                rcases List.mem_append.mp hx with r | r
                · rcases List.mem_append.mp r with r | r
                  · exact hin x (List.mem_of_mem_take r)
                  · rw [List.mem_singleton.mp r]
                    exact .inr fun S => Fl.lst (forall_consD (Fl.int _) (forall_consD (Fl.int _) forall_nilD))
                · exact hin x (List.mem_of_mem_drop r)
              · simp only [b9, decide_false, Bool.false_eq_true, if_false, ↓es_if, ↓ev_eTst, ↓ev_eBin, ↓ev_eVbs, ↓ev_eVb0, ↓ev_eC, ↓eqI2]
                by_cases b10 : w = 10
                · obtain ⟨k, hk⟩ : ∃ k, s.length = k + 1 := ⟨s.length - 1, by omega⟩
                  have hkl : k < s.length := by omega
                  have rK : R0[k]? = some [.int s[k].1, .int s[k].2] := by rw [← hR]; exact rows_at s hkl _
                  have aK : atI (outerOf s.length) (-1) = some (.mu (1 + k)) := by
                    rw [hk]
                    unfold outerOf
                    rw [List.range_succ, List.map_append]
                    exact atI_last _ _
                  have iL : ∀ {m : Int} {S : Sto} (p : PenR R0 m S) (Q : D → Sto → Prop), Ev (oIx (.mu (1 + s.length)) (.int (-1)) S) Q = Q (.mu (1 + k)) S := fun p Q => ixMu p rO aK Q
                  have k0 : ∀ {m : Int} {S : Sto} (p : PenR R0 m S) (Q : D → Sto → Prop), Ev (oIx (.mu (1 + k)) (.int 0) S) Q = Q (.int s[k].1) S := fun p Q => ixMu p rK (atI_nat (j := 0) rfl) Q
                  have k1 : ∀ {m : Int} {S : Sto} (p : PenR R0 m S) (Q : D → Sto → Prop), Ev (oIx (.mu (1 + k)) (.int 1) S) Q = Q (.int s[k].2) S := fun p Q => ixMu p rK (atI_nat (j := 1) rfl) Q
                  simp only [b10, decide_true, if_true, ↓es_set, ↓ev_eLst, ↓ev_eCatM, ↓ev_eV0, ↓ev_eVs, ↓ev_eDsp, ↓ev_eCons, ↓ev_eBin, ↓ev_eVbs, ↓ev_eVb0, ↓ev_eNegI, ↓ev_eC, ↓iL p3, ↓k0 p3, ↓ev_oAdd, ↓ev_eCall, ↓ev_eNil]
                  refine draw_k p3 (by omega) (by omega) (by omega) fun y S4 y0 y1 p4 => ?_
                  simp only [↓ev_oAdd, ↓ev_eBlt, ↓ev_eCons, ↓ev_eC, ↓ev_eBin, ↓ev_eVbs, ↓ev_eVb0, ↓ev_eNegI, ↓iL p4, ↓k1 p4, ↓ev_eCall, ↓ev_eV0, ↓ev_eVs, ↓ev_eNil]
                  refine draw_k p4 (by omega) (by omega) (by omega) fun z S5 z0 z1 p5 => ?_
                  have so6 : S5[1 + s.length]? = some (outerOf s.length) := by rw [p5.at_]; exact rO
                  simp only [↓ev_oSub, ↓ev_max2, ↓ev_eNil]
                  refine ⟨by show 2 ≤ 1000; decide, by show 1 ≤ 1000; decide, ?_⟩
                  rw [so6]
                  refine ⟨by rw [ol]; show s.length + 1 ≤ 1000000; omega, ?_⟩
                  simp only [↓ws_0, ↓ws_s, ↓es_retF, ↓ev_eV0, ↓ev_eVs]
                  refine fin p5 (by omega) (Fl.lst fun x hx => ok0.item p5 ?_)
                  rcases List.mem_append.mp hx with r | r
                  · exact hin x r
                  · rw [List.mem_singleton.mp r]
                    exact .inr fun S => Fl.lst (forall_consD (Fl.int _) (forall_consD (Fl.int _) forall_nilD))
                · simp only [b10, decide_false, Bool.false_eq_true, if_false, ↓es_nil, ↓es_retF, ↓ev_eV0, ↓ev_eVs]
                  exact fin p3 (by omega) (ok0.some p3)
end
end DL

namespace DL
open PySem PySem.Spec PyProof.Rows L2
section
variable {S R : Sto} {Q : D → Sto → Prop} {n m : Int}
theorem pd_pair (p : P2) : pd (dPair p) = true := rfl
theorem pdAll_map {γ : Type} {f : γ → D} (h : ∀ x, pd (f x) = true) : ∀ xs : List γ, pdAll (xs.map f) = true
  | [] => rfl
  | x :: xs => by show (pd (f x) && pdAll (xs.map f)) = true; rw [h x, pdAll_map h xs]; rfl
theorem soGo_stair {f : P2 → D} (hf : ∀ p, okC (f p) = (pairOk 0 MM (dPair p) && decide (p.2 ≤ p.1))) (hp : ∀ p, pr (f p) = p) {b : Int} (hb : b ≤ 1000000) : ∀ (s : List P2) (a : Option P2), Stair b s → (∀ q, a = some q → ∀ p ∈ s, Falls q p) → soGo a (s.map f) = true
  | [], _, _, _ => rfl
  | p :: s, a, hs, ha => by
    show (okC (f p) && fallO a (pr (f p)) && soGo (some (pr (f p))) (s.map f)) = true
    have hpp := hs.at_ p (by simp)
    have h1 : okC (f p) = true := by
      rw [hf]
      have : pairOk 0 MM (dPair p) = (decide (1 ≤ p.1) && decide (p.1 ≤ 1000000) && (decide (0 ≤ p.2) && decide (p.2 ≤ 1000000))) := rfl
      rw [this]
      simp
      omega
    have h2 : fallO a (pr (f p)) = true := by
      cases a with
      | none => rfl
      | some q =>
        have := ha q rfl p (by simp)
        rw [hp]
        show (decide (q.1 < p.1) && decide (p.2 < q.2)) = true
        simp
        exact this
    have h3 : soGo (some (pr (f p))) (s.map f) = true := soGo_stair hf hp hb s _ hs.tail fun q e r hr => by
      cases e
      rw [hp]
      exact (List.pairwise_cons.mp hs.fal).1 r hr
    rw [h1, h2, h3]
    rfl
theorem so_stair {s : List P2} {b : Int} (hs : Stair b s) (hb : b ≤ 1000000) : so (dStair s) = true := by
  show soGo none (s.map dPair) = true
  exact soGo_stair (fun p => rfl) (fun p => rfl) hb s none hs fun q e => by cases e
theorem so_stairL {s : List P2} {b : Int} (hs : Stair b s) (hb : b ≤ 1000000) : so (.lst (s.map fun p => .lst [.int p.1, .int p.2])) = true := by
  show soGo none (s.map fun p => .lst [.int p.1, .int p.2]) = true
  exact soGo_stair (f := fun p => .lst [.int p.1, .int p.2]) (fun p => rfl) (fun p => rfl) hb s none hs fun q e => by cases e
theorem isNotB {a b : Bool} : Ev (oIsNotB (.bl a) (.bl b) S) Q = Q (.bl (!decide (a = b))) S := Ev.of rfl
theorem isB {a b : Bool} : Ev (oIsB (.bl a) (.bl b) S) Q = Q (.bl (decide (a = b))) S := Ev.of rfl
theorem ev_callK0 {φ : List D → Sto → Res D} {f : EE} {env : Env} : Ev (eCallK φ 0 1 [0] eNil (eCons f eNil) env S) Q = Ev (f env S) fun d S => Ev (φ [d] S) Q := by
  show Ev (Res.bind _ _) Q = _
  rw [Ev.bind, ev_eNil, Ev.bind]
  rw [ev_eCons]
  congr 1; funext d S
  rw [ev_eNil]
  rfl
def law_rest : SS := (sSeq (sIf (eOrT (eTst (eBin oIsNotB (eCall φ_is_stair (eCons (eV 3) eNil)) (eC (.bl true)))) (eTst (eBin oIsNotB (eCallK φ_is_stair 0 1 [0] eNil (eCons (eLst (eComp (iD (eV 3)) (gN 6) eYes (eLst (eBltN bList (eCons (eVb 6) eNil))) [6])) eNil)) (eC (.bl true))))) (sRet (eC (.bl false))) sNil)
    (sSeq (sSet 7 (eCall φ__law_bent (eCons (eV 1) (eCons (eV 3) eNil))))
    (sIf (eTst (eBin oNe (eBlt bReprB (eCons (eCall φ_is_stair (eCons (eV 7) eNil)) eNil)) (eBlt bReprB (eCons (eCall φ__law_is_so (eCons (eV 7) eNil)) eNil)))) (sRet (eC (.bl false))) sNil)))
def law_body : SS := (sSeq (sSet 3 (eCall φ__law_some_stair (eCons (eV 1) (eCons (eCall φ__law_pick (eCons (eV 1) (eCons (eLst (eDsp (eCons (eC (.int 3)) (eCons (eC (.int 6)) (eCons (eC (.int 12)) eNil))))) eNil))) eNil))))
    (sSeq (sIf (eTst (eBin oEq (eCall φ__law_draw (eCons (eV 1) (eCons (eC (.int 3)) eNil))) (eC (.int 0)))) (sSet 3 (eCall φ__law_cut (eCons (eLst (eComp (iD (eV 3)) (gTp 2 (gsCons (gN 4) (gsCons (gN 5) gsNil))) eYes (eTup (eCons (eBin oSub (eBin oAdd (eVb 4) (eBin oPow (eC (.int 10)) (eC (.int 6)))) (eC (.int 60))) (eCons (eBin oAdd (eVb 5) (eCall φ__law_pick (eCons (eV 1) (eCons (eLst (eDsp (eCons (eC (.int 0)) (eCons (eBin oPow (eC (.int 10)) (eC (.int 5))) eNil)))) eNil)))) eNil))) [4, 5])) eNil))) sNil)
    law_rest))
def law_end : SS := (sRet (eAnd (eBin oIsB (eCall φ_is_stair (eCons (eTup eNil) eNil)) (eC (.bl true))) (eAnd (eBin oIsB (eCall φ_is_stair (eCons (eLst (eDsp eNil)) eNil)) (eC (.bl true))) (eAnd (eBin oIsB (eCall φ_is_stair (eCons (eTup (eCons (eTup (eCons (eC (.int 1)) (eCons (eC (.int 0)) eNil))) eNil)) eNil)) (eC (.bl true))) (eAnd (eBin oIsB (eCall φ_is_stair (eCons (eTup (eCons (eTup (eCons (eC (.int 1)) (eCons (eC (.int 1)) eNil))) eNil)) eNil)) (eC (.bl true))) (eBin oIsB (eCall φ_is_stair (eCons (eTup (eCons (eTup (eCons (eC (.int 1)) (eCons (eC (.int 2)) eNil))) eNil)) eNil)) (eC (.bl false))))))))
theorem b_law_eq : b_law = (sSeq (sSet 1 (eCall φ__law_pen (eCons (eV 0) eNil)))
    (sSeq (sFor (iRg1 (eC (.int 30))) (gN 2) law_body)
    law_end)) := rfl
theorem rest_k {A : D} {y2 y4 y5 y6 y7 : Option Slot} {nx bk ct : Env → Sto → Prop} {rt : D → Sto → Prop} {s : List P2} {b : Int} (hs : Stair b s) (hb : b ≤ 1000000) (ns : s ≠ []) (hl : s.length ≤ 200) (h : PenOk n S) (hn : n < 1000000)
    (q : ∀ y2 y3 y4 y5 y6 y7 S', PenOk (n + 6) S' → nx [some (.sh A), some (.sh (.mu 0)), y2, y3, y4, y5, y6, y7] S') :
    EvS (law_rest [some (.sh A), some (.sh (.mu 0)), y2, some (.sh (dStair s)), y4, y5, y6, y7] S) nx rt bk ct := by
  unfold law_rest
  have pS : pd (dStair s) = true := pdAll_map pd_pair s
  have hq : ∀ (k : List D → Prop), withSeq (dStair s) k = k (s.map dPair) := fun k => rfl
  simp only [↓es_seq, ↓es_if, ↓ev_eOrT, ↓ev_eTst, ↓ev_eBin, ↓ev_eCall, ↓ev_eCons, ↓ev_eV0, ↓ev_eVs, ↓ev_eNil, ↓stair_any pS, so_stair hs hb, ↓ev_eC, ↓isNotB, decide_true, Bool.not_true, Bool.false_eq_true, if_false, ↓ev_callK0, ↓ev_eLst, ↓ev_eComp, ↓ev_iD, ↓hq, ↓ww_0, ↓ww_s, ↓ws_0, ↓ws_s]
  have bl : ∀ (p : P2) (S : Sto) (QL : List D → Sto → Prop), Ev (bList [dPair p] S) QL = QL [.int p.1, .int p.2] S := fun p S QL => Ev.of rfl
  rw [compGo_all dPair (fun p => .lst [.int p.1, .int p.2]) s fun p hp => by simp [↓bl]]
  have pL : pd (.lst (s.map fun p => .lst [.int p.1, .int p.2])) = true := pdAll_map (fun p => rfl) s
  simp only [↓stair_any pL, so_stairL hs hb, ↓ev_eC, ↓isNotB, decide_true, Bool.not_true, Bool.false_eq_true, if_false, ↓es_nil, ↓es_seq, ↓es_set, ↓ev_eCall, ↓ev_eCons, ↓ev_eV0, ↓ev_eVs, ↓ev_eNil]
  refine bent_k ns hl h hn fun d S' hd p => ?_
  have rB : ∀ (b : Bool) (S : Sto) (Q : D → Sto → Prop), Ev (bReprB [.bl b] S) Q = Q (.str (if b then "True" else "False")) S := fun b S Q => Ev.of rfl
  have neS : ∀ (x : Str) (S : Sto) (Q : D → Sto → Prop), Ev (oNe (.str x) (.str x) S) Q = Q (.bl false) S := fun x S Q => by
    rw [ev_oNe rfl rfl]
    have : eqD (.str x) (.str x) = true := by show PyData.eqv (.str x) (.str x) = true; simp [PyData.eqv]
    rw [this]
    rfl
  simp only [↓ws_0, ↓ws_s, ↓es_if, ↓ev_eTst, ↓ev_eBin, ↓ev_eBlt, ↓ev_eCons, ↓ev_eCall, ↓ev_eV0, ↓ev_eVs, ↓ev_eNil, ↓stair_any hd, ↓isSo_any hd, ↓rB, ↓neS, Bool.false_eq_true, if_false, ↓es_nil]
  exact q _ _ _ _ _ _ _ p
theorem body_k {A : D} {y2 y3 y4 y5 y6 y7 : Option Slot} {nx bk ct : Env → Sto → Prop} {rt : D → Sto → Prop} (h : PenOk n S) (hn : n < 900000)
    (q : ∀ y2 y3 y4 y5 y6 y7 S', PenOk (n + 300) S' → nx [some (.sh A), some (.sh (.mu 0)), y2, y3, y4, y5, y6, y7] S') :
    EvS (law_body [some (.sh A), some (.sh (.mu 0)), y2, y3, y4, y5, y6, y7] S) nx rt bk ct := by
  unfold law_body
  simp only [↓es_seq, ↓es_set, ↓ev_eCall, ↓ev_eCons, ↓ev_eV0, ↓ev_eVs, ↓ev_eC, ↓ev_eLst, ↓ev_eDsp, ↓ev_eNil]
  refine ⟨by decide, ?_⟩
  refine pick_k h (by omega) (by simp) (by simp) fun d S1 hd p1 => ?_
  have hm : ∃ m : Int, d = .int m ∧ 1 ≤ m ∧ m ≤ 12 := by
    simp only [List.mem_cons, List.not_mem_nil, or_false] at hd
    rcases hd with rfl | rfl | rfl
    · exact ⟨3, rfl, by omega, by omega⟩
    · exact ⟨6, rfl, by omega, by omega⟩
    · exact ⟨12, rfl, by omega, by omega⟩
  obtain ⟨m, rfl, m1, m2⟩ := hm
  refine someStair_k m1 (by omega) p1 (by omega) fun s S2 hs ns ls p2 => ?_
  have hs15 : Stair 15 s := hs.mono (by omega)
  simp only [↓ws_0, ↓ws_s, ↓es_if, ↓ev_eTst, ↓ev_eBin, ↓ev_eCall, ↓ev_eCons, ↓ev_eV0, ↓ev_eVs, ↓ev_eC, ↓ev_eNil]
  refine draw_k p2 (by omega) (by omega) (by omega) fun x S3 x0 x1 p3 => ?_
  simp only [↓eqI2]
  by_cases hx : x = 0
  · have hq : ∀ (k : List D → Prop), withSeq (dStair s) k = k (s.map dPair) := fun k => rfl
    simp only [decide_eq_true hx, if_true, ↓es_set, ↓ev_eCall, ↓ev_eCons, ↓ev_eLst, ↓ev_eComp, ↓ev_iD, ↓ev_eV0, ↓ev_eVs, ↓hq, ↓ww_0, ↓ww_s, ↓ws_0, ↓ws_s]
    refine Ev.imp (compGo_st dPair (fun j S => PenOk (n + 15 + 2 * (j : Int)) S) (fun _ y => ∃ p : P2, y = dPair p ∧ 1 ≤ p.1 ∧ p.1 ≤ 1000000 ∧ 0 ≤ p.2 ∧ p.2 ≤ 1000000) s 0 S3 (fun w hw j S5 hj p5 => ?_) (p3.mono (by omega))) fun ys S5 ⟨p5, hl, hy⟩ => ?_
    · have hb := hs15.at_ w hw
      simp only [↓wg_p, ↓wg_n, ↓ws_0, ↓ws_s, ↓ev_eTup, ↓ev_eCons, ↓ev_eBin, ↓ev_eVbs, ↓ev_eVb0, ↓ev_eC, ↓pow106, ↓ev_oAdd, ↓ev_oSub, ↓ev_eCall, ↓ev_eV0, ↓ev_eVs, ↓ev_eLst, ↓ev_eDsp, ↓ev_eNil]
      rw [show Ev (oPow (.int 10) (.int 5) S5) _ = _ from ev_oPow (by decide)]
      refine ⟨by decide, ?_⟩
      refine pick_k p5 (by omega) (by simp) (by simp) fun d S6 hd p6 => ?_
      have hd2 : ∃ z : Int, d = .int z ∧ 0 ≤ z ∧ z ≤ 100000 := by
        simp only [List.mem_cons, List.not_mem_nil, or_false] at hd
        rcases hd with rfl | rfl
        · exact ⟨0, rfl, by omega, by omega⟩
        · exact ⟨100000, rfl, by omega, by omega⟩
      obtain ⟨z, rfl, z0, z1⟩ := hd2
      simp only [↓ev_oAdd]
      exact ⟨by show 2 ≤ 1000; decide, p6.mono (by omega), (w.1 + 1000000 - 60, w.2 + z), rfl, by show 1 ≤ w.1 + 1000000 - 60; omega, by show w.1 + 1000000 - 60 ≤ 1000000; omega, by show 0 ≤ w.2 + z; omega, by show w.2 + z ≤ 1000000; omega⟩
    · obtain ⟨ps, e, hps⟩ := forall_dec (f := dPair) (P := fun p : P2 => 1 ≤ p.1 ∧ p.1 ≤ 1000000 ∧ 0 ≤ p.2 ∧ p.2 ≤ 1000000) fun y hyy => by
        obtain ⟨_, _, p, e, h⟩ := hy y hyy
        exact ⟨p, e, h⟩
      subst e
      rw [List.length_map] at hl
      simp only [↓ev_eNil, ↓lawCut_ev (show ps.length ≤ 1000 by omega), ↓ws_0, ↓ws_s]
      have hps0 : ps ≠ [] := fun z => by
        have := List.length_pos_iff.mpr ns
        rw [z] at hl; simp at hl; omega
      have hcl := cut_len ps
      refine rest_k (cut_stair hps) (by omega) (cut_nonempty hps0) (by omega) p5 (by omega) fun z2 z3 z4 z5 z6 z7 S' p => ?_
      exact q _ _ _ _ _ _ _ (p.mono (by omega))
  · simp only [decide_eq_false hx, Bool.false_eq_true, if_false, ↓es_nil]
    refine rest_k hs15 (by omega) ns (by omega) p3 (by omega) fun z2 z3 z4 z5 z6 z7 S' p => ?_
    exact q _ _ _ _ _ _ _ (p.mono (by omega))
theorem math (ns : List Int) (hl : ns.length ≤ 63) : ∃ S', φ_law [.lst (ns.map .int)] [] = .ok (.bl true) S' := by
  have h : Ev (φ_law [.lst (ns.map .int)] []) fun d _ => d = .bl true := by
    rw [e_law, b_law_eq]
    simp only [↓es_seq, ↓es_set, ↓ev_eCall, ↓ev_eCons, ↓ev_eV0, ↓ev_eNil, ↓pen_ev hl, ↓ws_0, ↓ws_s, ↓es_for, ↓ev_iRg1, ↓ev_eC]
    refine ⟨by decide, ?_⟩
    refine forGo_inv (fun j env S' => PenOk (300 * (j : Int)) S' ∧ ∃ y2 y3 y4 y5 y6 y7, env = [some (.sh (.lst (ns.map .int))), some (.sh (.mu 0)), y2, y3, y4, y5, y6, y7]) (rangeD 0 (30 : Int).toNat) 0 ?_ _ _ ⟨⟨ns, 0, 0, rfl, by omega, by omega, by omega⟩, _, _, _, _, _, _, rfl⟩ ?_
    · rintro j d env S' hd ⟨hp, y2, y3, y4, y5, y6, y7, rfl⟩
      have hj : j < 30 := by
        have := (List.getElem?_eq_some_iff.mp hd).1
        rw [rangeD_len] at this
        exact this
      simp only [↓wg_n, ↓ws_0, ↓ws_s]
      refine body_k hp (by omega) fun z2 z3 z4 z5 z6 z7 S2 p2 => ?_
      exact ⟨p2.mono (by omega), _, _, _, _, _, _, rfl⟩
    · rintro env S' ⟨_, y2, y3, y4, y5, y6, y7, rfl⟩
      unfold law_end
      have s0 : pd (.tup []) = true := rfl
      have s1 : pd (.lst []) = true := rfl
      have s2 : pd (.tup [.tup [.int 1, .int 0]]) = true := rfl
      have s3 : pd (.tup [.tup [.int 1, .int 1]]) = true := rfl
      have s4 : pd (.tup [.tup [.int 1, .int 2]]) = true := rfl
      have t0 : so (.tup []) = true := by decide
      have t1 : so (.lst []) = true := by decide
      have t2 : so (.tup [.tup [.int 1, .int 0]]) = true := by decide
      have t3 : so (.tup [.tup [.int 1, .int 1]]) = true := by decide
      have t4 : so (.tup [.tup [.int 1, .int 2]]) = false := by decide
      simp [↓stair_any s0, ↓stair_any s1, ↓stair_any s2, ↓stair_any s3, ↓stair_any s4, t0, t1, t2, t3, t4, ↓isB, -dPair_eq]
  obtain ⟨d, S', e, rfl⟩ := h
  exact ⟨S', e⟩
end
end DL

namespace DL
open PySem PySem.Spec PyProof.Rows L2
def topS (i : Nat) : Stmt := PySem.Challenge.pw_quietcount_k10_stairs_and_what_is_none.main.body.getD i (.Pass ⟨0, 0, 0, 0⟩)
abbrev st_is_integer : Stmt := topS 1
abbrev N_is_integer : List Str := ["value"]
theorem sc_is_integer : FnScope N_is_integer ["value"] (defScope st_is_integer) := ⟨rfl, rfl, rfl, by decide +kernel, rfl, by decide +kernel, by decide +kernel⟩
abbrev st_is_between : Stmt := topS 2
abbrev N_is_between : List Str := ["value", "least", "most"]
theorem sc_is_between : FnScope N_is_between ["value", "least", "most"] (defScope st_is_between) := ⟨rfl, rfl, rfl, by decide +kernel, rfl, by decide +kernel, by decide +kernel⟩
abbrev st_is_listed : Stmt := topS 3
abbrev N_is_listed : List Str := ["value"]
theorem sc_is_listed : FnScope N_is_listed ["value"] (defScope st_is_listed) := ⟨rfl, rfl, rfl, by decide +kernel, rfl, by decide +kernel, by decide +kernel⟩
abbrev st_is_pair_of : Stmt := topS 6
abbrev N_is_pair_of : List Str := ["value", "least", "most"]
theorem sc_is_pair_of : FnScope N_is_pair_of ["value", "least", "most"] (defScope st_is_pair_of) := ⟨rfl, rfl, rfl, by decide +kernel, rfl, by decide +kernel, by decide +kernel⟩
abbrev st_is_stair : Stmt := topS 7
abbrev N_is_stair : List Str := ["value", "corner", "limit", "number", "one", "other"]
theorem sc_is_stair : FnScope N_is_stair ["value"] (defScope st_is_stair) := ⟨rfl, rfl, rfl, by decide +kernel, rfl, by decide +kernel, by decide +kernel⟩
abbrev st__law_pen : Stmt := topS 9
abbrev N__law_pen : List Str := ["script", "cell"]
theorem sc__law_pen : FnScope N__law_pen ["script"] (defScope st__law_pen) := ⟨rfl, rfl, rfl, by decide +kernel, rfl, by decide +kernel, by decide +kernel⟩
abbrev st__law_draw : Stmt := topS 10
abbrev N__law_draw : List Str := ["pen", "many", "rest", "at", "cell", "mixed"]
theorem sc__law_draw : FnScope N__law_draw ["pen", "many"] (defScope st__law_draw) := ⟨rfl, rfl, rfl, by decide +kernel, rfl, by decide +kernel, by decide +kernel⟩
abbrev st__law_pick : Stmt := topS 11
abbrev N__law_pick : List Str := ["pen", "some"]
theorem sc__law_pick : FnScope N__law_pick ["pen", "some"] (defScope st__law_pick) := ⟨rfl, rfl, rfl, by decide +kernel, rfl, by decide +kernel, by decide +kernel⟩
abbrev st__law_cut : Stmt := topS 12
abbrev N__law_cut : List Str := ["corners", "some", "limit", "number", "found"]
theorem sc__law_cut : FnScope N__law_cut ["corners"] (defScope st__law_cut) := ⟨rfl, rfl, rfl, by decide +kernel, rfl, by decide +kernel, by decide +kernel⟩
abbrev st__law_by_limits : Stmt := topS 13
abbrev N__law_by_limits : List Str := ["pairs", "most", "found", "limit", "some", "first", "number"]
theorem sc__law_by_limits : FnScope N__law_by_limits ["pairs", "most"] (defScope st__law_by_limits) := ⟨rfl, rfl, rfl, by decide +kernel, rfl, by decide +kernel, by decide +kernel⟩
abbrev st__law_of_limits : Stmt := topS 14
abbrev N__law_of_limits : List Str := ["row", "found", "limit", "number"]
theorem sc__law_of_limits : FnScope N__law_of_limits ["row"] (defScope st__law_of_limits) := ⟨rfl, rfl, rfl, by decide +kernel, rfl, by decide +kernel, by decide +kernel⟩
abbrev st__law_pairs : Stmt := topS 15
abbrev N__law_pairs : List Str := ["pen", "most", "turn"]
theorem sc__law_pairs : FnScope N__law_pairs ["pen", "most"] (defScope st__law_pairs) := ⟨rfl, rfl, rfl, by decide +kernel, rfl, by decide +kernel, by decide +kernel⟩
abbrev st__law_most : Stmt := topS 16
abbrev N__law_most : List Str := ["stairs", "stair", "corner"]
theorem sc__law_most : FnScope N__law_most ["stairs"] (defScope st__law_most) := ⟨rfl, rfl, rfl, by decide +kernel, rfl, by decide +kernel, by decide +kernel⟩
abbrev st__law_stair : Stmt := topS 17
abbrev N__law_stair : List Str := ["pen", "most", "pairs"]
theorem sc__law_stair : FnScope N__law_stair ["pen", "most"] (defScope st__law_stair) := ⟨rfl, rfl, rfl, by decide +kernel, rfl, by decide +kernel, by decide +kernel⟩
abbrev st__law_some_stair : Stmt := topS 18
abbrev N__law_some_stair : List Str := ["pen", "most", "found"]
theorem sc__law_some_stair : FnScope N__law_some_stair ["pen", "most"] (defScope st__law_some_stair) := ⟨rfl, rfl, rfl, by decide +kernel, rfl, by decide +kernel, by decide +kernel⟩
abbrev st__law_is_so : Stmt := topS 19
abbrev N__law_is_so : List Str := ["value", "ahead", "corner", "one"]
theorem sc__law_is_so : FnScope N__law_is_so ["value"] (defScope st__law_is_so) := ⟨rfl, rfl, rfl, by decide +kernel, rfl, by decide +kernel, by decide +kernel⟩
abbrev st__law_bent : Stmt := topS 20
abbrev N__law_bent : List Str := ["pen", "stair", "some", "at", "corner", "way"]
theorem sc__law_bent : FnScope N__law_bent ["pen", "stair"] (defScope st__law_bent) := ⟨rfl, rfl, rfl, by decide +kernel, rfl, by decide +kernel, by decide +kernel⟩
abbrev st_law : Stmt := topS 21
abbrev N_law : List Str := ["script", "pen", "turn", "stair", "limit", "number", "corner", "bent"]
theorem sc_law : FnScope N_law ["script"] (defScope st_law) := ⟨rfl, rfl, rfl, by decide +kernel, rfl, by decide +kernel, by decide +kernel⟩
structure GG (K : PySem.W.Frag) (mg : Str → Option Value) where
  f_is_integer : Addr
  fd_is_integer : FuncData
  F_is_integer : Fun K "is_integer" "is_integer" st_is_integer f_is_integer fd_is_integer
  b_is_integer : Binds K fd_is_integer ["value"] []
  g_is_integer : mg "is_integer" = some (.ref f_is_integer)
  f_is_between : Addr
  fd_is_between : FuncData
  F_is_between : Fun K "is_between" "is_between" st_is_between f_is_between fd_is_between
  b_is_between : Binds K fd_is_between ["value", "least", "most"] []
  g_is_between : mg "is_between" = some (.ref f_is_between)
  f_is_listed : Addr
  fd_is_listed : FuncData
  F_is_listed : Fun K "is_listed" "is_listed" st_is_listed f_is_listed fd_is_listed
  b_is_listed : Binds K fd_is_listed ["value"] []
  g_is_listed : mg "is_listed" = some (.ref f_is_listed)
  f_is_pair_of : Addr
  fd_is_pair_of : FuncData
  F_is_pair_of : Fun K "is_pair_of" "is_pair_of" st_is_pair_of f_is_pair_of fd_is_pair_of
  b_is_pair_of : Binds K fd_is_pair_of ["value", "least", "most"] []
  g_is_pair_of : mg "is_pair_of" = some (.ref f_is_pair_of)
  f_is_stair : Addr
  fd_is_stair : FuncData
  F_is_stair : Fun K "is_stair" "is_stair" st_is_stair f_is_stair fd_is_stair
  b_is_stair : Binds K fd_is_stair ["value"] []
  g_is_stair : mg "is_stair" = some (.ref f_is_stair)
  f__law_pen : Addr
  fd__law_pen : FuncData
  F__law_pen : Fun K "_law_pen" "_law_pen" st__law_pen f__law_pen fd__law_pen
  b__law_pen : Binds K fd__law_pen ["script"] []
  g__law_pen : mg "_law_pen" = some (.ref f__law_pen)
  f__law_draw : Addr
  fd__law_draw : FuncData
  F__law_draw : Fun K "_law_draw" "_law_draw" st__law_draw f__law_draw fd__law_draw
  b__law_draw : Binds K fd__law_draw ["pen", "many"] []
  g__law_draw : mg "_law_draw" = some (.ref f__law_draw)
  f__law_pick : Addr
  fd__law_pick : FuncData
  F__law_pick : Fun K "_law_pick" "_law_pick" st__law_pick f__law_pick fd__law_pick
  b__law_pick : Binds K fd__law_pick ["pen", "some"] []
  g__law_pick : mg "_law_pick" = some (.ref f__law_pick)
  f__law_cut : Addr
  fd__law_cut : FuncData
  F__law_cut : Fun K "_law_cut" "_law_cut" st__law_cut f__law_cut fd__law_cut
  b__law_cut : Binds K fd__law_cut ["corners"] []
  g__law_cut : mg "_law_cut" = some (.ref f__law_cut)
  f__law_by_limits : Addr
  fd__law_by_limits : FuncData
  F__law_by_limits : Fun K "_law_by_limits" "_law_by_limits" st__law_by_limits f__law_by_limits fd__law_by_limits
  b__law_by_limits : Binds K fd__law_by_limits ["pairs", "most"] []
  g__law_by_limits : mg "_law_by_limits" = some (.ref f__law_by_limits)
  f__law_of_limits : Addr
  fd__law_of_limits : FuncData
  F__law_of_limits : Fun K "_law_of_limits" "_law_of_limits" st__law_of_limits f__law_of_limits fd__law_of_limits
  b__law_of_limits : Binds K fd__law_of_limits ["row"] []
  g__law_of_limits : mg "_law_of_limits" = some (.ref f__law_of_limits)
  f__law_pairs : Addr
  fd__law_pairs : FuncData
  F__law_pairs : Fun K "_law_pairs" "_law_pairs" st__law_pairs f__law_pairs fd__law_pairs
  b__law_pairs : Binds K fd__law_pairs ["pen", "most"] []
  g__law_pairs : mg "_law_pairs" = some (.ref f__law_pairs)
  f__law_most : Addr
  fd__law_most : FuncData
  F__law_most : Fun K "_law_most" "_law_most" st__law_most f__law_most fd__law_most
  b__law_most : Binds K fd__law_most ["stairs"] []
  g__law_most : mg "_law_most" = some (.ref f__law_most)
  f__law_stair : Addr
  fd__law_stair : FuncData
  F__law_stair : Fun K "_law_stair" "_law_stair" st__law_stair f__law_stair fd__law_stair
  b__law_stair : Binds K fd__law_stair ["pen", "most"] []
  g__law_stair : mg "_law_stair" = some (.ref f__law_stair)
  f__law_some_stair : Addr
  fd__law_some_stair : FuncData
  F__law_some_stair : Fun K "_law_some_stair" "_law_some_stair" st__law_some_stair f__law_some_stair fd__law_some_stair
  b__law_some_stair : Binds K fd__law_some_stair ["pen", "most"] []
  g__law_some_stair : mg "_law_some_stair" = some (.ref f__law_some_stair)
  f__law_is_so : Addr
  fd__law_is_so : FuncData
  F__law_is_so : Fun K "_law_is_so" "_law_is_so" st__law_is_so f__law_is_so fd__law_is_so
  b__law_is_so : Binds K fd__law_is_so ["value"] []
  g__law_is_so : mg "_law_is_so" = some (.ref f__law_is_so)
  f__law_bent : Addr
  fd__law_bent : FuncData
  F__law_bent : Fun K "_law_bent" "_law_bent" st__law_bent f__law_bent fd__law_bent
  b__law_bent : Binds K fd__law_bent ["pen", "stair"] []
  g__law_bent : mg "_law_bent" = some (.ref f__law_bent)
  f_law : Addr
  fd_law : FuncData
  F_law : Fun K "law" "law" st_law f_law fd_law
  b_law : Binds K fd_law ["script"] []
  g_law : mg "law" = some (.ref f_law)
  kb_is_stair_0_value : KBinds K fd_is_stair ["value"] ["value"] (gK 0 1 [0]) (gK 0 1 [0])
  z_isinstance : mg "isinstance" = none
  z_int : mg "int" = none
  z_bool : mg "bool" = none
  z_list : mg "list" = none
  z_tuple : mg "tuple" = none
  z_len : mg "len" = none
  z_all : mg "all" = none
  z_zip : mg "zip" = none
  z_abs : mg "abs" = none
  z_max : mg "max" = none
  z_sorted : mg "sorted" = none
  z_range : mg "range" = none
  z_min : mg "min" = none
  z_enumerate : mg "enumerate" = none
  z_repr : mg "repr" = none
  c_MOST_LIMIT : ∃ t, mg "MOST_LIMIT" = some (.int 1000000 t)
theorem ok_is_integer {P : Program} {w : World} {K : PySem.W.Frag} {mg : Str → Option Value} {base : Heap} (G : GG K mg) : FnOk P w K mg base CX0 1 G.f_is_integer G.fd_is_integer ["value"] (spD K 1 φ_is_integer) :=
  fn_data (k := 0) G.F_is_integer sc_is_integer fun cdv A outer s H E B hr => by
    have hu := hr.units
    have nd := sc_is_integer.nd
    exact (ss_one (s_ret (d_and (d_isi rfl (by rfl) G.z_isinstance (by decide +kernel) (by rfl) G.z_int (by decide +kernel) (by decide) (bv 0)) (d_one (d_not (d_isi rfl (by rfl) G.z_isinstance (by decide +kernel) (by rfl) G.z_bool (by decide +kernel) (by decide) (bv 0)))))))
theorem ok_is_between {P : Program} {w : World} {K : PySem.W.Frag} {mg : Str → Option Value} {base : Heap} (G : GG K mg) : FnOk P w K mg base CX0 2 G.f_is_between G.fd_is_between ["value", "least", "most"] (spD K 3 φ_is_between) :=
  fn_data (k := 1) G.F_is_between sc_is_between fun cdv A outer s H E B hr => by
    have hu := hr.units
    have nd := sc_is_between.nd
    exact (ss_one (s_ret (d_and (d_call (ok_is_integer G) (hr.mono (by decide)) (by rfl) G.g_is_integer G.F_is_integer.kp G.b_is_integer (a_cons (dv 0) a_nil) rfl (eCons_len (fun _ _ _ _ h => eNil_len h))) (d_one (c_chain k_le k_le (bv 1) (bv 0) (bv 2))))))
theorem ok_is_listed {P : Program} {w : World} {K : PySem.W.Frag} {mg : Str → Option Value} {base : Heap} (G : GG K mg) : FnOk P w K mg base CX0 1 G.f_is_listed G.fd_is_listed ["value"] (spD K 1 φ_is_listed) :=
  fn_data (k := 0) G.F_is_listed sc_is_listed fun cdv A outer s H E B hr => by
    have hu := hr.units
    have nd := sc_is_listed.nd
    exact (ss_one (s_ret (d_isi2 rfl (by rfl) G.z_isinstance (by decide +kernel) (by rfl) G.z_list (by decide +kernel) (by rfl) G.z_tuple (by decide +kernel) (by decide) (by decide) (bv 0))))
theorem ok_is_pair_of {P : Program} {w : World} {K : PySem.W.Frag} {mg : Str → Option Value} {base : Heap} (G : GG K mg) : FnOk P w K mg base CX0 3 G.f_is_pair_of G.fd_is_pair_of ["value", "least", "most"] (spD K 3 φ_is_pair_of) :=
  fn_data (k := 2) G.F_is_pair_of sc_is_pair_of fun cdv A outer s H E B hr => by
    have hu := hr.units
    have nd := sc_is_pair_of.nd
    exact (ss_cons (s_if (w_or (t_not (q_tru (d_b (d_call (ok_is_listed G) (hr.mono (by decide)) (by rfl) G.g_is_listed G.F_is_listed.kp G.b_is_listed (a_cons (dv 0) a_nil) rfl (eCons_len (fun _ _ _ _ h => eNil_len h)))))) (w_or1 (q_cmp (k_ne hu) (d_b (c_len G.z_len (ab_cons (bv 0) ab_nil))) (d_b d_int)))).pt (ss_one (s_ret d_bl)) ss_nil)
    (ss_one (s_ret (d_and (d_call (ok_is_between G) (hr.mono (by decide)) (by rfl) G.g_is_between G.F_is_between.kp G.b_is_between (a_cons (c_ix (bv 0) (d_b d_int)) (a_cons d_int (a_cons (d_gint G.c_MOST_LIMIT) a_nil))) rfl (eCons_len (eCons_len (eCons_len (fun _ _ _ _ h => eNil_len h))))) (d_one (d_call (ok_is_between G) (hr.mono (by decide)) (by rfl) G.g_is_between G.F_is_between.kp G.b_is_between (a_cons (c_ix (bv 0) (d_b d_int)) (a_cons (dv 1) (a_cons (dv 2) a_nil))) rfl (eCons_len (eCons_len (eCons_len (fun _ _ _ _ h => eNil_len h))))))))))
theorem ok_is_stair {P : Program} {w : World} {K : PySem.W.Frag} {mg : Str → Option Value} {base : Heap} (G : GG K mg) : FnOk P w K mg base CX0 4 G.f_is_stair G.fd_is_stair ["value"] (spD K 1 φ_is_stair) :=
  fn_data (k := 3) G.F_is_stair sc_is_stair fun cdv A outer s H E B hr => by
    have hu := hr.units
    have nd := sc_is_stair.nd
    exact (ss_cons (s_if (w_or (t_not (q_tru (d_b (d_call (ok_is_listed G) (hr.mono (by decide)) (by rfl) G.g_is_listed G.F_is_listed.kp G.b_is_listed (a_cons (dv 0) a_nil) rfl (eCons_len (fun _ _ _ _ h => eNil_len h)))))) (w_or1 (t_not (q_tru (d_b (c_all rfl G.z_all (ab_cons (d_b (n_d (n_lc rfl nd (i_seq rfl (dv 0)) (blkOk_by (own := [("corner", 1)]) (by kernel_rfl)) (fun _ _ _ _ _ => (gn 1 nd)) (fun _ _ _ _ _ => ts_nil) (fun _ _ _ _ _ => (d_call (ok_is_pair_of G) (hr.mono (by decide)) (by rfl) G.g_is_pair_of G.F_is_pair_of.kp G.b_is_pair_of (a_cons (dv 1) (a_cons d_int (a_cons (d_gint G.c_MOST_LIMIT) a_nil))) rfl (eCons_len (eCons_len (eCons_len (fun _ _ _ _ h => eNil_len h)))))) (by decide)))) ab_nil))))))).pt (ss_one (s_ret d_bl)) ss_nil)
    (ss_cons (s_if (t_not (q_tru (d_b (c_all rfl G.z_all (ab_cons (d_b (n_d (n_lc rfl nd (i_seq rfl (dv 0)) (blkOk_by (own := [("limit", 2), ("number", 3)]) (by kernel_rfl)) (fun _ _ _ _ _ => (g_tup rfl rfl (gs_cons (gn 2 nd) (gs_cons (gn 3 nd) gs_nil)))) (fun _ _ _ _ _ => ts_nil) (fun _ _ _ _ _ => (c_cmp k_le (bv 3) (bv 2))) (by decide)))) ab_nil))))) (ss_one (s_ret d_bl)) ss_nil)
    (ss_one (s_ret (c_all rfl G.z_all (ab_cons (d_b (n_d (n_lc rfl nd (i_zip rfl (by rfl) G.z_zip (dv 0) (d_slice rfl (bv 0) (po_so d_int) po_no)) (blkOk_by (own := [("one", 4), ("other", 5)]) (by kernel_rfl)) (fun _ _ _ _ _ => (g_tup rfl rfl (gs_cons (gn 4 nd) (gs_cons (gn 5 nd) gs_nil)))) (fun _ _ _ _ _ => ts_nil) (fun _ _ _ _ _ => (d_and (c_cmp k_lt (d_b (c_ix (bv 4) (d_b d_int))) (d_b (c_ix (bv 5) (d_b d_int)))) (d_one (c_cmp k_gt (d_b (c_ix (bv 4) (d_b d_int))) (d_b (c_ix (bv 5) (d_b d_int))))))) (by decide)))) ab_nil))))))
theorem ok__law_pen {P : Program} {w : World} {K : PySem.W.Frag} {mg : Str → Option Value} {base : Heap} (G : GG K mg) : FnOk P w K mg base CX0 1 G.f__law_pen G.fd__law_pen ["script"] (spD K 1 φ__law_pen) :=
  fn_data (k := 0) G.F__law_pen sc__law_pen fun cdv A outer s H E B hr => by
    have hu := hr.units
    have nd := sc__law_pen.nd
    exact (ss_one (s_ret (d_mu (n_lst (a_cons (n_d (n_lc rfl nd (i_seq rfl (d_slice rfl (bv 0) po_no (po_so d_int))) (blkOk_by (own := [("cell", 1)]) (by kernel_rfl)) (fun _ _ _ _ _ => (gn 1 nd)) (fun _ _ _ _ _ => ts_nil) (fun _ _ _ _ _ => (c_int G.z_int (ab_cons (bv 1) ab_nil))) (by decide))) (a_cons d_int (a_cons d_int a_nil)))))))
theorem ok__law_draw {P : Program} {w : World} {K : PySem.W.Frag} {mg : Str → Option Value} {base : Heap} (G : GG K mg) : FnOk P w K mg base CX0 1 G.f__law_draw G.fd__law_draw ["pen", "many"] (spD K 2 φ__law_draw) :=
  fn_data (k := 0) G.F__law_draw sc__law_draw fun cdv A outer s H E B hr => by
    have hu := hr.units
    have nd := sc__law_draw.nd
    exact (ss_cons (s_if (q_cmp k_gt (d_b (c_ix (bv 0) (d_b d_int))) (d_b d_int)) (ss_cons (s_set (ps_set (i := 2) nd rfl (Or.inl rfl) (c_int G.z_int (ab_cons (d_b (c_ix (bv 0) (d_b d_int))) ab_nil))))
    (ss_cons (s_storeA (c_fdiv (bv 2) (bv 1)) (dv 0) d_int)
    (ss_one (s_ret (c_mod (d_b (c_int G.z_int (ab_cons (bv 2) ab_nil))) (bv 1)))))) ss_nil)
    (ss_cons (s_set (ps_set (i := 3) nd rfl (Or.inl rfl) (c_ix (bv 0) (d_b d_int))))
    (ss_cons (s_storeA (c_add (bv 3) (d_b d_int)) (dv 0) d_int)
    (ss_cons (s_set (ps_set (i := 4) nd rfl (Or.inl rfl) (c_add (d_b (c_mul (d_b d_int) (bv 3))) (d_b d_int))))
    (ss_cons (s_if (q_cmp (k_ne hu) (d_b (c_ix (bv 0) (d_b d_int))) (d_b (n_d (n_lst a_nil)))) (ss_one (s_set (ps_set (i := 4) nd rfl (Or.inl rfl) (c_ix (d_b (c_ix (bv 0) (d_b d_int))) (d_b (c_mod (d_b (c_int G.z_int (ab_cons (bv 3) ab_nil))) (d_b (c_len G.z_len (ab_cons (d_b (c_ix (bv 0) (d_b d_int))) ab_nil))))))))) ss_nil)
    (ss_cons (s_if (w_and (q_cmp k_lt (bv 3) (d_b (c_len G.z_len (ab_cons (d_b (c_ix (bv 0) (d_b d_int))) ab_nil)))) (w_and1 (q_cmp k_ge (d_b (c_abs G.z_abs (ab_cons (bv 4) ab_nil))) (d_b (c_pow (d_b d_int) (d_b d_int)))))).pt (ss_cons (s_set (ps_set (i := 2) nd rfl (Or.inl rfl) (c_add (d_b (c_mul (d_b d_int) (d_b (c_sub (d_b (c_abs G.z_abs (ab_cons (bv 4) ab_nil))) (d_b (c_pow (d_b d_int) (d_b d_int))))))) (d_b (c_int G.z_int (ab_cons (d_b (c_cmp k_lt (bv 4) (d_b d_int))) ab_nil))))))
    (ss_cons (s_storeA (c_fdiv (d_b (c_int G.z_int (ab_cons (bv 2) ab_nil))) (bv 1)) (dv 0) d_int)
    (ss_one (s_ret (c_mod (d_b (c_int G.z_int (ab_cons (bv 2) ab_nil))) (bv 1)))))) ss_nil)
    (ss_cons (s_set (ps_set (i := 5) nd rfl (Or.inl rfl) (c_mod (d_b (c_int G.z_int (ab_cons (d_b (c_pow (d_b (c_add (d_b (c_add (d_b (c_mod (d_b (c_int G.z_int (ab_cons (bv 4) ab_nil))) (d_b d_int))) (d_b (c_mul (d_b d_int) (bv 3))))) (d_b d_int))) (d_b d_int))) ab_nil))) (d_b d_int))))
    (ss_cons (s_set (ps_set (i := 5) nd rfl (Or.inl rfl) (c_mod (d_b (c_int G.z_int (ab_cons (d_b (c_pow (d_b (c_add (d_b (c_add (d_b (c_mul (bv 5) (d_b (c_add (d_b (c_mul (d_b d_int) (bv 3))) (d_b d_int))))) (d_b (c_mul (d_b (c_mul (d_b d_int) (bv 3))) (bv 3))))) (d_b d_int))) (d_b d_int))) ab_nil))) (d_b d_int))))
    (ss_one (s_ret (c_mod (d_b (c_int G.z_int (ab_cons (d_b (c_fdiv (bv 5) (d_b d_int))) ab_nil))) (bv 1))))))))))))
theorem ok__law_pick {P : Program} {w : World} {K : PySem.W.Frag} {mg : Str → Option Value} {base : Heap} (G : GG K mg) : FnOk P w K mg base CX0 2 G.f__law_pick G.fd__law_pick ["pen", "some"] (spD K 2 φ__law_pick) :=
  fn_data (k := 1) G.F__law_pick sc__law_pick fun cdv A outer s H E B hr => by
    have hu := hr.units
    have nd := sc__law_pick.nd
    exact (ss_one (s_ret (c_ix (bv 1) (d_b (d_call (ok__law_draw G) (hr.mono (by decide)) (by rfl) G.g__law_draw G.F__law_draw.kp G.b__law_draw (a_cons (dv 0) (a_cons (c_len G.z_len (ab_cons (bv 1) ab_nil)) a_nil)) rfl (eCons_len (eCons_len (fun _ _ _ _ h => eNil_len h))))))))
theorem ok__law_cut {P : Program} {w : World} {K : PySem.W.Frag} {mg : Str → Option Value} {base : Heap} (G : GG K mg) : FnOk P w K mg base CX0 1 G.f__law_cut G.fd__law_cut ["corners"] (spD K 1 φ__law_cut) :=
  fn_data (k := 0) G.F__law_cut sc__law_cut fun cdv A outer s H E B hr => by
    have hu := hr.units
    have nd := sc__law_cut.nd
    exact (ss_cons (s_set (ps_set (i := 1) nd rfl (Or.inl rfl) (n_d (c_sorted hu G.z_sorted (ab_cons (d_b (n_d (n_lc rfl nd (i_seq rfl (dv 0)) (blkOk_by (own := [("limit", 2), ("number", 3)]) (by kernel_rfl)) (fun _ _ _ _ _ => (g_tup rfl rfl (gs_cons (gn 2 nd) (gs_cons (gn 3 nd) gs_nil)))) (fun _ _ _ _ _ => ts_nil) (fun _ _ _ _ _ => (d_tup (a_cons (c_max2 rfl G.z_max (ab_cons (bv 2) (ab_cons (bv 3) ab_nil))) (a_cons (dv 3) a_nil)))) (by decide)))) ab_nil)))))
    (ss_cons (s_new (ps_set (i := 4) nd rfl (Or.inl rfl) (n_lst a_nil)))
    (ss_cons (s_for PassesOwn.never rfl (i_seq rfl (dv 1)) (g_tup rfl rfl (gs_cons (gn 2 nd) (gs_cons (gn 3 nd) gs_nil))) (ss_one (s_if (w_or (q_cmp (k_eq hu) (bv 4) (d_b (n_d (n_lst a_nil)))) (w_or1 (q_cmp k_lt (bv 3) (d_b (c_ix (d_b (c_ix (bv 4) (d_b (d_neg (d_b d_int))))) (d_b d_int)))))).pt (ss_cons (s_if (w_and (q_cmp (k_ne hu) (bv 4) (d_b (n_d (n_lst a_nil)))) (w_and1 (q_cmp (k_eq hu) (d_b (c_ix (d_b (c_ix (bv 4) (d_b (d_neg (d_b d_int))))) (d_b d_int))) (bv 2)))).pt (ss_one (s_popA (dvv 4))) ss_nil)
    (ss_one (s_appA (dvv 4) (d_tup (a_cons (dv 2) (a_cons (dv 3) a_nil)))))) ss_nil)))
    (ss_one (s_ret (c_tuple G.z_tuple (ab_cons (bv 4) ab_nil)))))))
theorem ok__law_by_limits {P : Program} {w : World} {K : PySem.W.Frag} {mg : Str → Option Value} {base : Heap} (G : GG K mg) : FnOk P w K mg base CX0 1 G.f__law_by_limits G.fd__law_by_limits ["pairs", "most"] (spD K 2 φ__law_by_limits) :=
  fn_data (k := 0) G.F__law_by_limits sc__law_by_limits fun cdv A outer s H E B hr => by
    have hu := hr.units
    have nd := sc__law_by_limits.nd
    exact (ss_cons (s_new (ps_set (i := 2) nd rfl (Or.inl rfl) (n_lst a_nil)))
    (ss_cons (s_for PassesOwn.never rfl (i_range2 (by rfl) G.z_range d_int (c_add (bv 1) (d_b d_int))) (gn 3 nd) (ss_cons (s_setN (s_newLc (i := 4) rfl nd rfl rfl (sw_true rfl rfl rfl (by decide +kernel)) (i_seq rfl (dv 0)) (blkOk_by (own := [("first", 5), ("number", 6)]) (by kernel_rfl)) (fun _ _ _ _ _ => (g_tup rfl rfl (gs_cons (gn 5 nd) (gs_cons (gn 6 nd) gs_nil)))) (fun _ _ _ _ _ => ts_one (w_and (q_cmp k_le (bv 5) (bv 3)) (w_and1 (q_cmp k_le (bv 6) (bv 3)))).pt) (fun _ _ _ _ _ => (dv 6)) (by decide)))
    (ss_one (s_appA (dvv 2) (d_if (q_cmp (k_ne hu) (bv 4) (d_b (n_d (n_lst a_nil)))) (c_min1 rfl hu G.z_min (ab_cons (bv 4) ab_nil)) d_non)))))
    (ss_frz (i := 2) (ss_one (s_ret (dv 2))))))
theorem ok__law_of_limits {P : Program} {w : World} {K : PySem.W.Frag} {mg : Str → Option Value} {base : Heap} (G : GG K mg) : FnOk P w K mg base CX0 1 G.f__law_of_limits G.fd__law_of_limits ["row"] (spD K 1 φ__law_of_limits) :=
  fn_data (k := 0) G.F__law_of_limits sc__law_of_limits fun cdv A outer s H E B hr => by
    have hu := hr.units
    have nd := sc__law_of_limits.nd
    exact (ss_cons (s_new (ps_set (i := 1) nd rfl (Or.inl rfl) (n_lst a_nil)))
    (ss_cons (s_for PassesOwn.never rfl (i_seq rfl (n_d (n_listEn rfl rfl (by rfl) G.z_list (by rfl) G.z_enumerate (d_b (n_d (n_cat (n_lst (a_cons d_non a_nil)) (c_list G.z_list (ab_cons (bv 0) ab_nil)))))))) (g_tup rfl rfl (gs_cons (gn 2 nd) (gs_cons (gn 3 nd) gs_nil))) (ss_one (s_if (w_and (q_cmp k_isnot (bv 3) (d_b d_non)) (w_and (q_cmp k_le (bv 3) (bv 2)) (w_and1 (w_or (q_cmp (k_eq hu) (bv 1) (d_b (n_d (n_lst a_nil)))) (w_or1 (q_cmp k_lt (bv 3) (d_b (c_ix (d_b (c_ix (bv 1) (d_b (d_neg (d_b d_int))))) (d_b d_int)))))).pt))).pt (ss_one (s_appA (dvv 1) (d_tup (a_cons (dv 2) (a_cons (dv 3) a_nil))))) ss_nil)))
    (ss_one (s_ret (c_tuple G.z_tuple (ab_cons (bv 1) ab_nil))))))
theorem ok__law_pairs {P : Program} {w : World} {K : PySem.W.Frag} {mg : Str → Option Value} {base : Heap} (G : GG K mg) : FnOk P w K mg base CX0 3 G.f__law_pairs G.fd__law_pairs ["pen", "most"] (spD K 2 φ__law_pairs) :=
  fn_data (k := 2) G.F__law_pairs sc__law_pairs fun cdv A outer s H E B hr => by
    have hu := hr.units
    have nd := sc__law_pairs.nd
    exact (ss_one (s_ret (n_d (n_lc rfl nd (i_range1 (by rfl) G.z_range (d_call (ok__law_pick G) (hr.mono (by decide)) (by rfl) G.g__law_pick G.F__law_pick.kp G.b__law_pick (a_cons (dv 0) (a_cons (n_d (n_lst (a_cons d_int (a_cons d_int (a_cons d_int (a_cons d_int (a_cons d_int (a_cons d_int (a_cons d_int a_nil))))))))) a_nil)) rfl (eCons_len (eCons_len (fun _ _ _ _ h => eNil_len h))))) (blkOk_by (own := [("turn", 2)]) (by kernel_rfl)) (fun _ _ _ _ _ => (gn 2 nd)) (fun _ _ _ _ _ => ts_nil) (fun _ _ _ _ _ => (d_tup (a_cons (c_add (d_b d_int) (d_b (d_call (ok__law_draw G) (hr.mono (by decide)) (by rfl) G.g__law_draw G.F__law_draw.kp G.b__law_draw (a_cons (dv 0) (a_cons (dv 1) a_nil)) rfl (eCons_len (eCons_len (fun _ _ _ _ h => eNil_len h)))))) (a_cons (d_call (ok__law_draw G) (hr.mono (by decide)) (by rfl) G.g__law_draw G.F__law_draw.kp G.b__law_draw (a_cons (dv 0) (a_cons (c_add (bv 1) (d_b d_int)) a_nil)) rfl (eCons_len (eCons_len (fun _ _ _ _ h => eNil_len h)))) a_nil)))) (by decide)))))
theorem ok__law_most {P : Program} {w : World} {K : PySem.W.Frag} {mg : Str → Option Value} {base : Heap} (G : GG K mg) : FnOk P w K mg base CX0 1 G.f__law_most G.fd__law_most ["stairs"] (spD K 1 φ__law_most) :=
  fn_data (k := 0) G.F__law_most sc__law_most fun cdv A outer s H E B hr => by
    have hu := hr.units
    have nd := sc__law_most.nd
    exact (ss_one (s_ret (c_add (d_b d_int) (d_b (c_max1 rfl hu G.z_max (ab_cons (d_b (n_d (n_cat (n_lst (a_cons d_int a_nil)) (n_lc rfl nd (i_seq rfl (dv 0)) (blkOk_by (own := [("stair", 1)]) (by kernel_rfl)) (fun _ _ _ _ _ => (gn 1 nd)) (fun _ _ _ _ _ => ts_one (q_cmp k_gt (d_b (c_len G.z_len (ab_cons (bv 1) ab_nil))) (d_b d_int))) (fun _ _ _ _ _ => (c_max1 rfl hu G.z_max (ab_cons (d_b (n_d (n_lc rfl nd (i_seq rfl (dv 1)) (blkOk_by (own := [("corner", 2)]) (by kernel_rfl)) (fun _ _ _ _ _ => (gn 2 nd)) (fun _ _ _ _ _ => ts_nil) (fun _ _ _ _ _ => (c_max1 rfl hu G.z_max (ab_cons (bv 2) ab_nil))) (by decide)))) ab_nil))) (by decide))))) ab_nil))))))
theorem ok__law_stair {P : Program} {w : World} {K : PySem.W.Frag} {mg : Str → Option Value} {base : Heap} (G : GG K mg) : FnOk P w K mg base CX0 4 G.f__law_stair G.fd__law_stair ["pen", "most"] (spD K 2 φ__law_stair) :=
  fn_data (k := 3) G.F__law_stair sc__law_stair fun cdv A outer s H E B hr => by
    have hu := hr.units
    have nd := sc__law_stair.nd
    exact (ss_cons (s_set (ps_set (i := 2) nd rfl (Or.inl rfl) (d_call (ok__law_pairs G) (hr.mono (by decide)) (by rfl) G.g__law_pairs G.F__law_pairs.kp G.b__law_pairs (a_cons (dv 0) (a_cons (dv 1) a_nil)) rfl (eCons_len (eCons_len (fun _ _ _ _ h => eNil_len h))))))
    (ss_one (s_ret (d_call (ok__law_of_limits G) (hr.mono (by decide)) (by rfl) G.g__law_of_limits G.F__law_of_limits.kp G.b__law_of_limits (a_cons (d_call (ok__law_by_limits G) (hr.mono (by decide)) (by rfl) G.g__law_by_limits G.F__law_by_limits.kp G.b__law_by_limits (a_cons (dv 2) (a_cons (d_call (ok__law_most G) (hr.mono (by decide)) (by rfl) G.g__law_most G.F__law_most.kp G.b__law_most (a_cons (n_d (n_lst (a_cons (dv 2) a_nil))) a_nil) rfl (eCons_len (fun _ _ _ _ h => eNil_len h))) a_nil)) rfl (eCons_len (eCons_len (fun _ _ _ _ h => eNil_len h)))) a_nil) rfl (eCons_len (fun _ _ _ _ h => eNil_len h))))))
theorem ok__law_some_stair {P : Program} {w : World} {K : PySem.W.Frag} {mg : Str → Option Value} {base : Heap} (G : GG K mg) : FnOk P w K mg base CX0 5 G.f__law_some_stair G.fd__law_some_stair ["pen", "most"] (spD K 2 φ__law_some_stair) :=
  fn_data (k := 4) G.F__law_some_stair sc__law_some_stair fun cdv A outer s H E B hr => by
    have hu := hr.units
    have nd := sc__law_some_stair.nd
    exact (ss_cons (s_set (ps_set (i := 2) nd rfl (Or.inl rfl) (d_call (ok__law_stair G) (hr.mono (by decide)) (by rfl) G.g__law_stair G.F__law_stair.kp G.b__law_stair (a_cons (dv 0) (a_cons (dv 1) a_nil)) rfl (eCons_len (eCons_len (fun _ _ _ _ h => eNil_len h))))))
    (ss_one (s_ret (d_if (q_cmp (k_ne hu) (bv 2) (d_b (d_tup a_nil))) (dv 2) (d_tup (a_cons (d_tup (a_cons (c_add (d_b d_int) (d_b (d_call (ok__law_draw G) (hr.mono (by decide)) (by rfl) G.g__law_draw G.F__law_draw.kp G.b__law_draw (a_cons (dv 0) (a_cons (dv 1) a_nil)) rfl (eCons_len (eCons_len (fun _ _ _ _ h => eNil_len h)))))) (a_cons d_int a_nil))) a_nil))))))
theorem ok__law_is_so {P : Program} {w : World} {K : PySem.W.Frag} {mg : Str → Option Value} {base : Heap} (G : GG K mg) : FnOk P w K mg base CX0 1 G.f__law_is_so G.fd__law_is_so ["value"] (spD K 1 φ__law_is_so) :=
  fn_data (k := 0) G.F__law_is_so sc__law_is_so fun cdv A outer s H E B hr => by
    have hu := hr.units
    have nd := sc__law_is_so.nd
    exact (ss_cons (s_if (t_not (q_tru (d_b (d_isi2 rfl (by rfl) G.z_isinstance (by decide +kernel) (by rfl) G.z_list (by decide +kernel) (by rfl) G.z_tuple (by decide +kernel) (by decide) (by decide) (bv 0))))) (ss_one (s_ret d_bl)) ss_nil)
    (ss_cons (s_set (ps_set (i := 1) nd rfl (Or.inl rfl) d_non))
    (ss_cons (s_for PassesOwn.never rfl (i_seq rfl (dv 0)) (gn 2 nd) (ss_cons (s_if (w_or (t_not (q_tru (d_b (d_isi2 rfl (by rfl) G.z_isinstance (by decide +kernel) (by rfl) G.z_list (by decide +kernel) (by rfl) G.z_tuple (by decide +kernel) (by decide) (by decide) (bv 2))))) (w_or (q_cmp (k_ne hu) (d_b (c_len G.z_len (ab_cons (bv 2) ab_nil))) (d_b d_int)) (w_or1 (q_cmp (k_ne hu) (d_b (n_d (n_lc rfl nd (i_seq rfl (dv 2)) (blkOk_by (own := [("one", 3)]) (by kernel_rfl)) (fun _ _ _ _ _ => (gn 3 nd)) (fun _ _ _ _ _ => ts_one (w_or (t_not (q_tru (d_b (d_isi rfl (by rfl) G.z_isinstance (by decide +kernel) (by rfl) G.z_int (by decide +kernel) (by decide) (bv 3))))) (w_or1 (q_tru (d_b (d_isi rfl (by rfl) G.z_isinstance (by decide +kernel) (by rfl) G.z_bool (by decide +kernel) (by decide) (bv 3)))))).pt) (fun _ _ _ _ _ => d_int) (by decide)))) (d_b (n_d (n_lst a_nil))))))).pt (ss_one (s_ret d_bl)) ss_nil)
    (ss_cons (s_if (w_or (t_not (q_chain k_le k_le (d_b d_int) (d_b (c_ix (bv 2) (d_b d_int))) (d_b (c_pow (d_b d_int) (d_b d_int))))) (w_or1 (t_not (q_chain k_le k_le (d_b d_int) (d_b (c_ix (bv 2) (d_b d_int))) (d_b (c_ix (bv 2) (d_b d_int))))))).pt (ss_one (s_ret d_bl)) ss_nil)
    (ss_cons (s_if (w_and (q_cmp k_isnot (bv 1) (d_b d_non)) (w_and1 (w_or (q_cmp k_le (d_b (c_ix (bv 2) (d_b d_int))) (d_b (c_ix (bv 1) (d_b d_int)))) (w_or1 (q_cmp k_ge (d_b (c_ix (bv 2) (d_b d_int))) (d_b (c_ix (bv 1) (d_b d_int)))))).pt)).pt (ss_one (s_ret d_bl)) ss_nil)
    (ss_one (s_set (ps_set (i := 1) nd rfl (Or.inl rfl) (dv 2))))))))
    (ss_one (s_ret d_bl)))))
theorem ok__law_bent {P : Program} {w : World} {K : PySem.W.Frag} {mg : Str → Option Value} {base : Heap} (G : GG K mg) : FnOk P w K mg base CX0 3 G.f__law_bent G.fd__law_bent ["pen", "stair"] (spD K 2 φ__law_bent) :=
  fn_dataM (k := 2) G.F__law_bent sc__law_bent fun cdv A outer s H E B hB hr => by
    have hu := hr.units
    have nd := sc__law_bent.nd
    exact (ss_cons (s_par (ps_par (i := 2) (j := 3) rfl nd rfl rfl (by decide) rfl rfl (a_cons (d_mu (n_lc rfl nd (i_seq rfl (dv 1)) (blkOk_by (own := [("corner", 4)]) (by kernel_rfl)) (fun _ _ _ _ _ => (gn 4 nd)) (fun _ _ _ _ _ => ts_nil) (fun _ _ _ _ _ => (d_mu (c_list G.z_list (ab_cons (bv 4) ab_nil)))) (by decide))) (a_cons (d_call (ok__law_draw G) (hr.mono (by decide)) (by rfl) G.g__law_draw G.F__law_draw.kp G.b__law_draw (a_cons (dv 0) (a_cons (c_len G.z_len (ab_cons (bv 1) ab_nil)) a_nil)) rfl (eCons_len (eCons_len (fun _ _ _ _ h => eNil_len h)))) a_nil)) (by rfl)))
    (ss_cons (s_set (ps_set (i := 5) nd rfl (Or.inl rfl) (d_call (ok__law_draw G) (hr.mono (by decide)) (by rfl) G.g__law_draw G.F__law_draw.kp G.b__law_draw (a_cons (dv 0) (a_cons d_int a_nil)) rfl (eCons_len (eCons_len (fun _ _ _ _ h => eNil_len h))))))
    (ss_cons (s_if (q_cmp k_lt (bv 5) (d_b d_int)) (ss_one (s_storeA (d_call (ok__law_pick G) (hr.mono (by decide)) (by rfl) G.g__law_pick G.F__law_pick.kp G.b__law_pick (a_cons (dv 0) (a_cons (n_d (n_lst (a_cons d_int (a_cons (d_neg (d_b d_int)) (a_cons (c_add (d_b (c_ix (d_b (c_ix (bv 2) (bv 3))) (d_b d_int))) (d_b d_int)) (a_cons (c_ix (d_b (c_ix (bv 2) (bv 3))) (d_b d_int)) (a_cons (c_pow (d_b d_int) (d_b d_int)) (a_cons (c_add (d_b (c_pow (d_b d_int) (d_b d_int))) (d_b d_int)) (a_cons (c_ix (d_b (c_ix (bv 2) (bv 3))) (d_b d_int)) a_nil))))))))) a_nil)) rfl (eCons_len (eCons_len (fun _ _ _ _ h => eNil_len h)))) (c_ix (bv 2) (bv 3)) (c_mod (d_b (c_int G.z_int (ab_cons (bv 5) ab_nil))) (d_b d_int)))) (ss_one (s_if (q_cmp (k_eq hu) (bv 5) (d_b d_int)) (ss_one (s_set (ps_set (i := 2) nd rfl (Or.inl rfl) (n_d (n_rev rfl (bv 2)))))) (ss_one (s_if (q_cmp (k_eq hu) (bv 5) (d_b d_int)) (ss_one (s_set (ps_set (i := 2) nd rfl (Or.inl rfl) (n_d (n_catM (dv 2) (n_lst (a_cons (c_ix (bv 2) (bv 3)) a_nil))))))) (ss_one (s_if (q_cmp (k_eq hu) (bv 5) (d_b d_int)) (ss_one (s_storeA (d_call (ok__law_pick G) (hr.mono (by decide)) (by rfl) G.g__law_pick G.F__law_pick.kp G.b__law_pick (a_cons (dv 0) (a_cons (n_d (n_lst (a_cons d_bl (a_cons d_non (a_cons d_str (a_cons (d_tup (a_cons d_int a_nil)) (a_cons d_bl (a_cons (n_d (n_lst a_nil)) a_nil)))))))) a_nil)) rfl (eCons_len (eCons_len (fun _ _ _ _ h => eNil_len h)))) (c_ix (bv 2) (bv 3)) (d_call (ok__law_draw G) (hr.mono (by decide)) (by rfl) G.g__law_draw G.F__law_draw.kp G.b__law_draw (a_cons (dv 0) (a_cons d_int a_nil)) rfl (eCons_len (eCons_len (fun _ _ _ _ h => eNil_len h)))))) (ss_one (s_if (q_cmp (k_eq hu) (bv 5) (d_b d_int)) (ss_one (s_storeA (d_call (ok__law_pick G) (hr.mono (by decide)) (by rfl) G.g__law_pick G.F__law_pick.kp G.b__law_pick (a_cons (dv 0) (a_cons (n_d (n_lst (a_cons (n_d (n_catM (c_ix (bv 2) (bv 3)) (n_lst (a_cons d_int a_nil)))) (a_cons (n_d (n_sliceS rfl (d_b (c_ix (bv 2) (bv 3))) po_no (po_so d_int))) (a_cons d_non (a_cons d_int (a_cons d_str (a_cons d_dct0 (a_cons (d_dctK (fs := [((eC (.int 1)), (eC (.int 0))), ((eC (.int 2)), (eC (.int 0)))]) (pps_cons d_int d_int (pps_cons d_int d_int pps_nil))) a_nil))))))))) a_nil)) rfl (eCons_len (eCons_len (fun _ _ _ _ h => eNil_len h)))) (dv 2) (dv 3))) (ss_one (s_if (q_cmp (k_eq hu) (bv 5) (d_b d_int)) (ss_one (s_retF hB (d_call (ok__law_pick G) (hr.mono (by decide)) (by rfl) G.g__law_pick G.F__law_pick.kp G.b__law_pick (a_cons (dv 0) (a_cons (n_d (n_lst (a_cons d_non (a_cons d_int (a_cons d_str (a_cons d_dct0 (a_cons (d_dct1T hu (a_cons d_int (a_cons d_int a_nil)) d_int) (a_cons d_bl (a_cons (d_tup (a_cons d_str (a_cons d_str a_nil))) (a_cons (n_d (n_lst (a_cons (d_tup (a_cons d_int (a_cons d_int a_nil))) (a_cons d_non a_nil)))) a_nil)))))))))) a_nil)) rfl (eCons_len (eCons_len (fun _ _ _ _ h => eNil_len h)))))) (ss_one (s_if (q_cmp (k_eq hu) (bv 5) (d_b d_int)) (ss_one (s_insA (dv 2) (dv 3) (n_d (n_lst (a_cons (c_ix (d_b (c_ix (bv 2) (bv 3))) (d_b d_int)) (a_cons (c_add (d_b (c_ix (d_b (c_ix (bv 2) (bv 3))) (d_b d_int))) (d_b d_int)) a_nil)))))) (ss_one (s_if (q_cmp (k_eq hu) (bv 5) (d_b d_int)) (ss_one (s_set (ps_set (i := 2) nd rfl (Or.inl rfl) (n_d (n_catM (dv 2) (n_lst (a_cons (n_d (n_lst (a_cons (c_add (d_b (c_add (d_b (c_ix (d_b (c_ix (bv 2) (d_b (d_neg (d_b d_int))))) (d_b d_int))) (d_b d_int))) (d_b (d_call (ok__law_draw G) (hr.mono (by decide)) (by rfl) G.g__law_draw G.F__law_draw.kp G.b__law_draw (a_cons (dv 0) (a_cons d_int a_nil)) rfl (eCons_len (eCons_len (fun _ _ _ _ h => eNil_len h)))))) (a_cons (c_max2 rfl G.z_max (ab_cons (d_b d_int) (ab_cons (d_b (c_sub (d_b (c_ix (d_b (c_ix (bv 2) (d_b (d_neg (d_b d_int))))) (d_b d_int))) (d_b (d_call (ok__law_draw G) (hr.mono (by decide)) (by rfl) G.g__law_draw G.F__law_draw.kp G.b__law_draw (a_cons (dv 0) (a_cons d_int a_nil)) rfl (eCons_len (eCons_len (fun _ _ _ _ h => eNil_len h))))))) ab_nil))) a_nil)))) a_nil))))))) ss_nil)))))))))))))))
    (ss_one (s_retF hB (dv 2))))))
theorem ok_law {P : Program} {w : World} {K : PySem.W.Frag} {mg : Str → Option Value} {base : Heap} (G : GG K mg) : FnOk P w K mg base CX0 6 G.f_law G.fd_law ["script"] (spD K 1 φ_law) :=
  fn_data (k := 5) G.F_law sc_law fun cdv A outer s H E B hr => by
    have hu := hr.units
    have nd := sc_law.nd
    exact (ss_cons (s_set (ps_set (i := 1) nd rfl (Or.inr rfl) (d_call (ok__law_pen G) (hr.mono (by decide)) (by rfl) G.g__law_pen G.F__law_pen.kp G.b__law_pen (a_cons (dv 0) a_nil) rfl (eCons_len (fun _ _ _ _ h => eNil_len h)))))
    (ss_cons (s_for PassesOwn.never rfl (i_range1 (by rfl) G.z_range d_int) (gn 2 nd) (ss_cons (s_set (ps_set (i := 3) nd rfl (Or.inl rfl) (d_call (ok__law_some_stair G) (hr.mono (by decide)) (by rfl) G.g__law_some_stair G.F__law_some_stair.kp G.b__law_some_stair (a_cons (dv 1) (a_cons (d_call (ok__law_pick G) (hr.mono (by decide)) (by rfl) G.g__law_pick G.F__law_pick.kp G.b__law_pick (a_cons (dv 1) (a_cons (n_d (n_lst (a_cons d_int (a_cons d_int (a_cons d_int a_nil))))) a_nil)) rfl (eCons_len (eCons_len (fun _ _ _ _ h => eNil_len h)))) a_nil)) rfl (eCons_len (eCons_len (fun _ _ _ _ h => eNil_len h))))))
    (ss_cons (s_if (q_cmp (k_eq hu) (d_b (d_call (ok__law_draw G) (hr.mono (by decide)) (by rfl) G.g__law_draw G.F__law_draw.kp G.b__law_draw (a_cons (dv 1) (a_cons d_int a_nil)) rfl (eCons_len (eCons_len (fun _ _ _ _ h => eNil_len h))))) (d_b d_int)) (ss_one (s_set (ps_set (i := 3) nd rfl (Or.inl rfl) (d_call (ok__law_cut G) (hr.mono (by decide)) (by rfl) G.g__law_cut G.F__law_cut.kp G.b__law_cut (a_cons (n_d (n_lc rfl nd (i_seq rfl (dv 3)) (blkOk_by (own := [("limit", 4), ("number", 5)]) (by kernel_rfl)) (fun _ _ _ _ _ => (g_tup rfl rfl (gs_cons (gn 4 nd) (gs_cons (gn 5 nd) gs_nil)))) (fun _ _ _ _ _ => ts_nil) (fun _ _ _ _ _ => (d_tup (a_cons (c_sub (d_b (c_add (bv 4) (d_b (c_pow (d_b d_int) (d_b d_int))))) (d_b d_int)) (a_cons (c_add (bv 5) (d_b (d_call (ok__law_pick G) (hr.mono (by decide)) (by rfl) G.g__law_pick G.F__law_pick.kp G.b__law_pick (a_cons (dv 1) (a_cons (n_d (n_lst (a_cons d_int (a_cons (c_pow (d_b d_int) (d_b d_int)) a_nil)))) a_nil)) rfl (eCons_len (eCons_len (fun _ _ _ _ h => eNil_len h)))))) a_nil)))) (by decide))) a_nil) rfl (eCons_len (fun _ _ _ _ h => eNil_len h)))))) ss_nil)
    (ss_cons (s_if (w_or (q_cmp k_isnotB (d_b (d_call (ok_is_stair G) (hr.mono (by decide)) (by rfl) G.g_is_stair G.F_is_stair.kp G.b_is_stair (a_cons (dv 3) a_nil) rfl (eCons_len (fun _ _ _ _ h => eNil_len h)))) (d_b d_bl)) (w_or1 (q_cmp k_isnotB (d_b (d_callK0 (ok_is_stair G) (hr.mono (by decide)) (by rfl) G.g_is_stair G.F_is_stair.kp G.kb_is_stair_0_value (kw_cons (n_d (n_lc rfl nd (i_seq rfl (dv 3)) (blkOk_by (own := [("corner", 6)]) (by kernel_rfl)) (fun _ _ _ _ _ => (gn 6 nd)) (fun _ _ _ _ _ => ts_nil) (fun _ _ _ _ _ => (n_d (c_list G.z_list (ab_cons (bv 6) ab_nil)))) (by decide))) kw_nil))) (d_b d_bl)))).pt (ss_one (s_ret d_bl)) ss_nil)
    (ss_cons (s_set (ps_set (i := 7) nd rfl (Or.inl rfl) (d_call (ok__law_bent G) (hr.mono (by decide)) (by rfl) G.g__law_bent G.F__law_bent.kp G.b__law_bent (a_cons (dv 1) (a_cons (dv 3) a_nil)) rfl (eCons_len (eCons_len (fun _ _ _ _ h => eNil_len h))))))
    (ss_one (s_if (q_cmp (k_ne hu) (d_b (d_callB cr_reprB cd_reprB (by rfl) G.z_repr (by decide +kernel) (ab_cons (d_b (d_call (ok_is_stair G) (hr.mono (by decide)) (by rfl) G.g_is_stair G.F_is_stair.kp G.b_is_stair (a_cons (dv 7) a_nil) rfl (eCons_len (fun _ _ _ _ h => eNil_len h)))) ab_nil))) (d_b (d_callB cr_reprB cd_reprB (by rfl) G.z_repr (by decide +kernel) (ab_cons (d_b (d_call (ok__law_is_so G) (hr.mono (by decide)) (by rfl) G.g__law_is_so G.F__law_is_so.kp G.b__law_is_so (a_cons (dv 7) a_nil) rfl (eCons_len (fun _ _ _ _ h => eNil_len h)))) ab_nil)))) (ss_one (s_ret d_bl)) ss_nil)))))))
    (ss_one (s_ret (d_and (c_cmp k_isB (d_b (d_call (ok_is_stair G) (hr.mono (by decide)) (by rfl) G.g_is_stair G.F_is_stair.kp G.b_is_stair (a_cons (d_tup a_nil) a_nil) rfl (eCons_len (fun _ _ _ _ h => eNil_len h)))) (d_b d_bl)) (d_and (c_cmp k_isB (d_b (d_call (ok_is_stair G) (hr.mono (by decide)) (by rfl) G.g_is_stair G.F_is_stair.kp G.b_is_stair (a_cons (n_d (n_lst a_nil)) a_nil) rfl (eCons_len (fun _ _ _ _ h => eNil_len h)))) (d_b d_bl)) (d_and (c_cmp k_isB (d_b (d_call (ok_is_stair G) (hr.mono (by decide)) (by rfl) G.g_is_stair G.F_is_stair.kp G.b_is_stair (a_cons (d_tup (a_cons (d_tup (a_cons d_int (a_cons d_int a_nil))) a_nil)) a_nil) rfl (eCons_len (fun _ _ _ _ h => eNil_len h)))) (d_b d_bl)) (d_and (c_cmp k_isB (d_b (d_call (ok_is_stair G) (hr.mono (by decide)) (by rfl) G.g_is_stair G.F_is_stair.kp G.b_is_stair (a_cons (d_tup (a_cons (d_tup (a_cons d_int (a_cons d_int a_nil))) a_nil)) a_nil) rfl (eCons_len (fun _ _ _ _ h => eNil_len h)))) (d_b d_bl)) (d_one (c_cmp k_isB (d_b (d_call (ok_is_stair G) (hr.mono (by decide)) (by rfl) G.g_is_stair G.F_is_stair.kp G.b_is_stair (a_cons (d_tup (a_cons (d_tup (a_cons d_int (a_cons d_int a_nil))) a_nil)) a_nil) rfl (eCons_len (fun _ _ _ _ h => eNil_len h)))) (d_b d_bl)))))))))))
end DL

namespace DL
open PySem PySem.Spec PyProof.Rows L2
theorem all_mk {l : PySem.W.OpenLaw} {w : World} {K : PySem.W.Frag} {h : Heap} {mg : Str → Option Value} {fa : Addr} (X : K.In h) (G : h.Ns mainGlobals mg) (hfa : mg "law" = some (.ref fa))
    {f0 : Addr} {od0 an0 : Option Addr} {sl0 : Array (Option Value)} {oc0 kV0 dc0 pm0 cd0 ct0 : Value}
    (a0 : PySem.W.nsIn K mainGlobals "is_integer" = some (some (.ref f0))) (l0 : K.lookup f0 = some ⟨oc0, od0, .func (PySem.W.fnOf "is_integer" "is_integer" (defArgs st_is_integer) (defBody st_is_integer) (defScope st_is_integer) .none kV0 dc0 pm0 an0 cd0 ct0), sl0⟩) (c0 : PySem.W.codeIn K cd0 "is_integer" = true) (k0 : PySem.W.keepIn K (.ref f0) = true)
    {f1 : Addr} {od1 an1 : Option Addr} {sl1 : Array (Option Value)} {oc1 kV1 dc1 pm1 cd1 ct1 : Value}
    (a1 : PySem.W.nsIn K mainGlobals "is_between" = some (some (.ref f1))) (l1 : K.lookup f1 = some ⟨oc1, od1, .func (PySem.W.fnOf "is_between" "is_between" (defArgs st_is_between) (defBody st_is_between) (defScope st_is_between) .none kV1 dc1 pm1 an1 cd1 ct1), sl1⟩) (c1 : PySem.W.codeIn K cd1 "is_between" = true) (k1 : PySem.W.keepIn K (.ref f1) = true)
    {f2 : Addr} {od2 an2 : Option Addr} {sl2 : Array (Option Value)} {oc2 kV2 dc2 pm2 cd2 ct2 : Value}
    (a2 : PySem.W.nsIn K mainGlobals "is_listed" = some (some (.ref f2))) (l2 : K.lookup f2 = some ⟨oc2, od2, .func (PySem.W.fnOf "is_listed" "is_listed" (defArgs st_is_listed) (defBody st_is_listed) (defScope st_is_listed) .none kV2 dc2 pm2 an2 cd2 ct2), sl2⟩) (c2 : PySem.W.codeIn K cd2 "is_listed" = true) (k2 : PySem.W.keepIn K (.ref f2) = true)
    {f3 : Addr} {od3 an3 : Option Addr} {sl3 : Array (Option Value)} {oc3 kV3 dc3 pm3 cd3 ct3 : Value}
    (a3 : PySem.W.nsIn K mainGlobals "is_pair_of" = some (some (.ref f3))) (l3 : K.lookup f3 = some ⟨oc3, od3, .func (PySem.W.fnOf "is_pair_of" "is_pair_of" (defArgs st_is_pair_of) (defBody st_is_pair_of) (defScope st_is_pair_of) .none kV3 dc3 pm3 an3 cd3 ct3), sl3⟩) (c3 : PySem.W.codeIn K cd3 "is_pair_of" = true) (k3 : PySem.W.keepIn K (.ref f3) = true)
    {f4 : Addr} {od4 an4 : Option Addr} {sl4 : Array (Option Value)} {oc4 kV4 dc4 pm4 cd4 ct4 : Value}
    (a4 : PySem.W.nsIn K mainGlobals "is_stair" = some (some (.ref f4))) (l4 : K.lookup f4 = some ⟨oc4, od4, .func (PySem.W.fnOf "is_stair" "is_stair" (defArgs st_is_stair) (defBody st_is_stair) (defScope st_is_stair) .none kV4 dc4 pm4 an4 cd4 ct4), sl4⟩) (c4 : PySem.W.codeIn K cd4 "is_stair" = true) (k4 : PySem.W.keepIn K (.ref f4) = true)
    {f5 : Addr} {od5 an5 : Option Addr} {sl5 : Array (Option Value)} {oc5 kV5 dc5 pm5 cd5 ct5 : Value}
    (a5 : PySem.W.nsIn K mainGlobals "_law_pen" = some (some (.ref f5))) (l5 : K.lookup f5 = some ⟨oc5, od5, .func (PySem.W.fnOf "_law_pen" "_law_pen" (defArgs st__law_pen) (defBody st__law_pen) (defScope st__law_pen) .none kV5 dc5 pm5 an5 cd5 ct5), sl5⟩) (c5 : PySem.W.codeIn K cd5 "_law_pen" = true) (k5 : PySem.W.keepIn K (.ref f5) = true)
    {f6 : Addr} {od6 an6 : Option Addr} {sl6 : Array (Option Value)} {oc6 kV6 dc6 pm6 cd6 ct6 : Value}
    (a6 : PySem.W.nsIn K mainGlobals "_law_draw" = some (some (.ref f6))) (l6 : K.lookup f6 = some ⟨oc6, od6, .func (PySem.W.fnOf "_law_draw" "_law_draw" (defArgs st__law_draw) (defBody st__law_draw) (defScope st__law_draw) .none kV6 dc6 pm6 an6 cd6 ct6), sl6⟩) (c6 : PySem.W.codeIn K cd6 "_law_draw" = true) (k6 : PySem.W.keepIn K (.ref f6) = true)
    {f7 : Addr} {od7 an7 : Option Addr} {sl7 : Array (Option Value)} {oc7 kV7 dc7 pm7 cd7 ct7 : Value}
    (a7 : PySem.W.nsIn K mainGlobals "_law_pick" = some (some (.ref f7))) (l7 : K.lookup f7 = some ⟨oc7, od7, .func (PySem.W.fnOf "_law_pick" "_law_pick" (defArgs st__law_pick) (defBody st__law_pick) (defScope st__law_pick) .none kV7 dc7 pm7 an7 cd7 ct7), sl7⟩) (c7 : PySem.W.codeIn K cd7 "_law_pick" = true) (k7 : PySem.W.keepIn K (.ref f7) = true)
    {f8 : Addr} {od8 an8 : Option Addr} {sl8 : Array (Option Value)} {oc8 kV8 dc8 pm8 cd8 ct8 : Value}
    (a8 : PySem.W.nsIn K mainGlobals "_law_cut" = some (some (.ref f8))) (l8 : K.lookup f8 = some ⟨oc8, od8, .func (PySem.W.fnOf "_law_cut" "_law_cut" (defArgs st__law_cut) (defBody st__law_cut) (defScope st__law_cut) .none kV8 dc8 pm8 an8 cd8 ct8), sl8⟩) (c8 : PySem.W.codeIn K cd8 "_law_cut" = true) (k8 : PySem.W.keepIn K (.ref f8) = true)
    {f9 : Addr} {od9 an9 : Option Addr} {sl9 : Array (Option Value)} {oc9 kV9 dc9 pm9 cd9 ct9 : Value}
    (a9 : PySem.W.nsIn K mainGlobals "_law_by_limits" = some (some (.ref f9))) (l9 : K.lookup f9 = some ⟨oc9, od9, .func (PySem.W.fnOf "_law_by_limits" "_law_by_limits" (defArgs st__law_by_limits) (defBody st__law_by_limits) (defScope st__law_by_limits) .none kV9 dc9 pm9 an9 cd9 ct9), sl9⟩) (c9 : PySem.W.codeIn K cd9 "_law_by_limits" = true) (k9 : PySem.W.keepIn K (.ref f9) = true)
    {f10 : Addr} {od10 an10 : Option Addr} {sl10 : Array (Option Value)} {oc10 kV10 dc10 pm10 cd10 ct10 : Value}
    (a10 : PySem.W.nsIn K mainGlobals "_law_of_limits" = some (some (.ref f10))) (l10 : K.lookup f10 = some ⟨oc10, od10, .func (PySem.W.fnOf "_law_of_limits" "_law_of_limits" (defArgs st__law_of_limits) (defBody st__law_of_limits) (defScope st__law_of_limits) .none kV10 dc10 pm10 an10 cd10 ct10), sl10⟩) (c10 : PySem.W.codeIn K cd10 "_law_of_limits" = true) (k10 : PySem.W.keepIn K (.ref f10) = true)
    {f11 : Addr} {od11 an11 : Option Addr} {sl11 : Array (Option Value)} {oc11 kV11 dc11 pm11 cd11 ct11 : Value}
    (a11 : PySem.W.nsIn K mainGlobals "_law_pairs" = some (some (.ref f11))) (l11 : K.lookup f11 = some ⟨oc11, od11, .func (PySem.W.fnOf "_law_pairs" "_law_pairs" (defArgs st__law_pairs) (defBody st__law_pairs) (defScope st__law_pairs) .none kV11 dc11 pm11 an11 cd11 ct11), sl11⟩) (c11 : PySem.W.codeIn K cd11 "_law_pairs" = true) (k11 : PySem.W.keepIn K (.ref f11) = true)
    {f12 : Addr} {od12 an12 : Option Addr} {sl12 : Array (Option Value)} {oc12 kV12 dc12 pm12 cd12 ct12 : Value}
    (a12 : PySem.W.nsIn K mainGlobals "_law_most" = some (some (.ref f12))) (l12 : K.lookup f12 = some ⟨oc12, od12, .func (PySem.W.fnOf "_law_most" "_law_most" (defArgs st__law_most) (defBody st__law_most) (defScope st__law_most) .none kV12 dc12 pm12 an12 cd12 ct12), sl12⟩) (c12 : PySem.W.codeIn K cd12 "_law_most" = true) (k12 : PySem.W.keepIn K (.ref f12) = true)
    {f13 : Addr} {od13 an13 : Option Addr} {sl13 : Array (Option Value)} {oc13 kV13 dc13 pm13 cd13 ct13 : Value}
    (a13 : PySem.W.nsIn K mainGlobals "_law_stair" = some (some (.ref f13))) (l13 : K.lookup f13 = some ⟨oc13, od13, .func (PySem.W.fnOf "_law_stair" "_law_stair" (defArgs st__law_stair) (defBody st__law_stair) (defScope st__law_stair) .none kV13 dc13 pm13 an13 cd13 ct13), sl13⟩) (c13 : PySem.W.codeIn K cd13 "_law_stair" = true) (k13 : PySem.W.keepIn K (.ref f13) = true)
    {f14 : Addr} {od14 an14 : Option Addr} {sl14 : Array (Option Value)} {oc14 kV14 dc14 pm14 cd14 ct14 : Value}
    (a14 : PySem.W.nsIn K mainGlobals "_law_some_stair" = some (some (.ref f14))) (l14 : K.lookup f14 = some ⟨oc14, od14, .func (PySem.W.fnOf "_law_some_stair" "_law_some_stair" (defArgs st__law_some_stair) (defBody st__law_some_stair) (defScope st__law_some_stair) .none kV14 dc14 pm14 an14 cd14 ct14), sl14⟩) (c14 : PySem.W.codeIn K cd14 "_law_some_stair" = true) (k14 : PySem.W.keepIn K (.ref f14) = true)
    {f15 : Addr} {od15 an15 : Option Addr} {sl15 : Array (Option Value)} {oc15 kV15 dc15 pm15 cd15 ct15 : Value}
    (a15 : PySem.W.nsIn K mainGlobals "_law_is_so" = some (some (.ref f15))) (l15 : K.lookup f15 = some ⟨oc15, od15, .func (PySem.W.fnOf "_law_is_so" "_law_is_so" (defArgs st__law_is_so) (defBody st__law_is_so) (defScope st__law_is_so) .none kV15 dc15 pm15 an15 cd15 ct15), sl15⟩) (c15 : PySem.W.codeIn K cd15 "_law_is_so" = true) (k15 : PySem.W.keepIn K (.ref f15) = true)
    {f16 : Addr} {od16 an16 : Option Addr} {sl16 : Array (Option Value)} {oc16 kV16 dc16 pm16 cd16 ct16 : Value}
    (a16 : PySem.W.nsIn K mainGlobals "_law_bent" = some (some (.ref f16))) (l16 : K.lookup f16 = some ⟨oc16, od16, .func (PySem.W.fnOf "_law_bent" "_law_bent" (defArgs st__law_bent) (defBody st__law_bent) (defScope st__law_bent) .none kV16 dc16 pm16 an16 cd16 ct16), sl16⟩) (c16 : PySem.W.codeIn K cd16 "_law_bent" = true) (k16 : PySem.W.keepIn K (.ref f16) = true)
    {f17 : Addr} {od17 an17 : Option Addr} {sl17 : Array (Option Value)} {oc17 kV17 dc17 pm17 cd17 ct17 : Value}
    (a17 : PySem.W.nsIn K mainGlobals "law" = some (some (.ref f17))) (l17 : K.lookup f17 = some ⟨oc17, od17, .func (PySem.W.fnOf "law" "law" (defArgs st_law) (defBody st_law) (defScope st_law) .none kV17 dc17 pm17 an17 cd17 ct17), sl17⟩) (c17 : PySem.W.codeIn K cd17 "law" = true) (k17 : PySem.W.keepIn K (.ref f17) = true)
    (z_isinstance : PySem.W.nsIn K mainGlobals "isinstance" = some none)
    (z_int : PySem.W.nsIn K mainGlobals "int" = some none)
    (z_bool : PySem.W.nsIn K mainGlobals "bool" = some none)
    (z_list : PySem.W.nsIn K mainGlobals "list" = some none)
    (z_tuple : PySem.W.nsIn K mainGlobals "tuple" = some none)
    (z_len : PySem.W.nsIn K mainGlobals "len" = some none)
    (z_all : PySem.W.nsIn K mainGlobals "all" = some none)
    (z_zip : PySem.W.nsIn K mainGlobals "zip" = some none)
    (z_abs : PySem.W.nsIn K mainGlobals "abs" = some none)
    (z_max : PySem.W.nsIn K mainGlobals "max" = some none)
    (z_sorted : PySem.W.nsIn K mainGlobals "sorted" = some none)
    (z_range : PySem.W.nsIn K mainGlobals "range" = some none)
    (z_min : PySem.W.nsIn K mainGlobals "min" = some none)
    (z_enumerate : PySem.W.nsIn K mainGlobals "enumerate" = some none)
    (z_repr : PySem.W.nsIn K mainGlobals "repr" = some none)
    {t_MOST_LIMIT : Tok} (q_MOST_LIMIT : PySem.W.nsIn K mainGlobals "MOST_LIMIT" = some (some (.int 1000000 t_MOST_LIMIT)))
    : ∃ fd : FuncData, (∀ (s : Shared) (v : Value), BindsTo s fd ⟨[v], []⟩ [("script", v)]) ∧ ∀ base : Heap, K.In base → base.Ns mainGlobals mg → FnOk l.prog w K mg base CX0 6 fa fd ["script"] (spD K 1 φ_law) := by
  have e := hfa.symm.trans (PySem.W.mg_of X G a17)
  cases e
  have F0 := fun_mk (st := st_is_integer) l0 c0 k0
  have F1 := fun_mk (st := st_is_between) l1 c1 k1
  have F2 := fun_mk (st := st_is_listed) l2 c2 k2
  have F3 := fun_mk (st := st_is_pair_of) l3 c3 k3
  have F4 := fun_mk (st := st_is_stair) l4 c4 k4
  have F5 := fun_mk (st := st__law_pen) l5 c5 k5
  have F6 := fun_mk (st := st__law_draw) l6 c6 k6
  have F7 := fun_mk (st := st__law_pick) l7 c7 k7
  have F8 := fun_mk (st := st__law_cut) l8 c8 k8
  have F9 := fun_mk (st := st__law_by_limits) l9 c9 k9
  have F10 := fun_mk (st := st__law_of_limits) l10 c10 k10
  have F11 := fun_mk (st := st__law_pairs) l11 c11 k11
  have F12 := fun_mk (st := st__law_most) l12 c12 k12
  have F13 := fun_mk (st := st__law_stair) l13 c13 k13
  have F14 := fun_mk (st := st__law_some_stair) l14 c14 k14
  have F15 := fun_mk (st := st__law_is_so) l15 c15 k15
  have F16 := fun_mk (st := st__law_bent) l16 c16 k16
  have F17 := fun_mk (st := st_law) l17 c17 k17
  have b0 := F0.binds (ps := ["value"]) fun _ _ _ _ _ _ us hl => match us, hl with | [_], _ => rfl
  have b1 := F1.binds (ps := ["value", "least", "most"]) fun _ _ _ _ _ _ us hl => match us, hl with | [_, _, _], _ => rfl
  have b2 := F2.binds (ps := ["value"]) fun _ _ _ _ _ _ us hl => match us, hl with | [_], _ => rfl
  have b3 := F3.binds (ps := ["value", "least", "most"]) fun _ _ _ _ _ _ us hl => match us, hl with | [_, _, _], _ => rfl
  have b4 := F4.binds (ps := ["value"]) fun _ _ _ _ _ _ us hl => match us, hl with | [_], _ => rfl
  have b5 := F5.binds (ps := ["script"]) fun _ _ _ _ _ _ us hl => match us, hl with | [_], _ => rfl
  have b6 := F6.binds (ps := ["pen", "many"]) fun _ _ _ _ _ _ us hl => match us, hl with | [_, _], _ => rfl
  have b7 := F7.binds (ps := ["pen", "some"]) fun _ _ _ _ _ _ us hl => match us, hl with | [_, _], _ => rfl
  have b8 := F8.binds (ps := ["corners"]) fun _ _ _ _ _ _ us hl => match us, hl with | [_], _ => rfl
  have b9 := F9.binds (ps := ["pairs", "most"]) fun _ _ _ _ _ _ us hl => match us, hl with | [_, _], _ => rfl
  have b10 := F10.binds (ps := ["row"]) fun _ _ _ _ _ _ us hl => match us, hl with | [_], _ => rfl
  have b11 := F11.binds (ps := ["pen", "most"]) fun _ _ _ _ _ _ us hl => match us, hl with | [_, _], _ => rfl
  have b12 := F12.binds (ps := ["stairs"]) fun _ _ _ _ _ _ us hl => match us, hl with | [_], _ => rfl
  have b13 := F13.binds (ps := ["pen", "most"]) fun _ _ _ _ _ _ us hl => match us, hl with | [_, _], _ => rfl
  have b14 := F14.binds (ps := ["pen", "most"]) fun _ _ _ _ _ _ us hl => match us, hl with | [_, _], _ => rfl
  have b15 := F15.binds (ps := ["value"]) fun _ _ _ _ _ _ us hl => match us, hl with | [_], _ => rfl
  have b16 := F16.binds (ps := ["pen", "stair"]) fun _ _ _ _ _ _ us hl => match us, hl with | [_, _], _ => rfl
  have b17 := F17.binds (ps := ["script"]) fun _ _ _ _ _ _ us hl => match us, hl with | [_], _ => rfl
  have GGv : ∃ g : GG K mg, g.f_law = fa ∧ g.fd_law = PySem.W.fnOf "law" "law" (defArgs st_law) (defBody st_law) (defScope st_law) .none kV17 dc17 pm17 an17 cd17 ct17 := ⟨{ f_is_integer := _, fd_is_integer := _, F_is_integer := F0, b_is_integer := b0, g_is_integer := PySem.W.mg_of X G a0, f_is_between := _, fd_is_between := _, F_is_between := F1, b_is_between := b1, g_is_between := PySem.W.mg_of X G a1, f_is_listed := _, fd_is_listed := _, F_is_listed := F2, b_is_listed := b2, g_is_listed := PySem.W.mg_of X G a2, f_is_pair_of := _, fd_is_pair_of := _, F_is_pair_of := F3, b_is_pair_of := b3, g_is_pair_of := PySem.W.mg_of X G a3, f_is_stair := _, fd_is_stair := _, F_is_stair := F4, b_is_stair := b4, g_is_stair := PySem.W.mg_of X G a4, f__law_pen := _, fd__law_pen := _, F__law_pen := F5, b__law_pen := b5, g__law_pen := PySem.W.mg_of X G a5, f__law_draw := _, fd__law_draw := _, F__law_draw := F6, b__law_draw := b6, g__law_draw := PySem.W.mg_of X G a6, f__law_pick := _, fd__law_pick := _, F__law_pick := F7, b__law_pick := b7, g__law_pick := PySem.W.mg_of X G a7, f__law_cut := _, fd__law_cut := _, F__law_cut := F8, b__law_cut := b8, g__law_cut := PySem.W.mg_of X G a8, f__law_by_limits := _, fd__law_by_limits := _, F__law_by_limits := F9, b__law_by_limits := b9, g__law_by_limits := PySem.W.mg_of X G a9, f__law_of_limits := _, fd__law_of_limits := _, F__law_of_limits := F10, b__law_of_limits := b10, g__law_of_limits := PySem.W.mg_of X G a10, f__law_pairs := _, fd__law_pairs := _, F__law_pairs := F11, b__law_pairs := b11, g__law_pairs := PySem.W.mg_of X G a11, f__law_most := _, fd__law_most := _, F__law_most := F12, b__law_most := b12, g__law_most := PySem.W.mg_of X G a12, f__law_stair := _, fd__law_stair := _, F__law_stair := F13, b__law_stair := b13, g__law_stair := PySem.W.mg_of X G a13, f__law_some_stair := _, fd__law_some_stair := _, F__law_some_stair := F14, b__law_some_stair := b14, g__law_some_stair := PySem.W.mg_of X G a14, f__law_is_so := _, fd__law_is_so := _, F__law_is_so := F15, b__law_is_so := b15, g__law_is_so := PySem.W.mg_of X G a15, f__law_bent := _, fd__law_bent := _, F__law_bent := F16, b__law_bent := b16, g__law_bent := PySem.W.mg_of X G a16, f_law := _, fd_law := _, F_law := F17, b_law := b17, g_law := PySem.W.mg_of X G a17, kb_is_stair_0_value := kbinds_of (fun z => by cases z) fun us ws h1 h2 => match us, h1, ws, h2 with | [], _, [_], _ => rfl, z_isinstance := PySem.W.mg_none_of X G z_isinstance, z_int := PySem.W.mg_none_of X G z_int, z_bool := PySem.W.mg_none_of X G z_bool, z_list := PySem.W.mg_none_of X G z_list, z_tuple := PySem.W.mg_none_of X G z_tuple, z_len := PySem.W.mg_none_of X G z_len, z_all := PySem.W.mg_none_of X G z_all, z_zip := PySem.W.mg_none_of X G z_zip, z_abs := PySem.W.mg_none_of X G z_abs, z_max := PySem.W.mg_none_of X G z_max, z_sorted := PySem.W.mg_none_of X G z_sorted, z_range := PySem.W.mg_none_of X G z_range, z_min := PySem.W.mg_none_of X G z_min, z_enumerate := PySem.W.mg_none_of X G z_enumerate, z_repr := PySem.W.mg_none_of X G z_repr, c_MOST_LIMIT := ⟨_, PySem.W.mg_of X G q_MOST_LIMIT⟩ }, rfl, rfl⟩
  obtain ⟨g, e1, e2⟩ := GGv
  refine ⟨PySem.W.fnOf "law" "law" (defArgs st_law) (defBody st_law) (defScope st_law) .none kV17 dc17 pm17 an17 cd17 ct17, fun s v => .of_eq rfl, fun base _ _ => ?_⟩
  have h := ok_law (P := l.prog) (w := w) (base := base) g
  rw [e1, e2] at h
  exact h
end DL
open PySem PySem.W PyProof.Rows
set_option maxHeartbeats 0 in
theorem PySem.Challenge.cw_quietcount_k10_stairs_and_what_is_none_holds : PySem.Challenge.rw_quietcount_k10_stairs_and_what_is_none.Holds := by
  w_on; o_law; k_head; (case hw => w_witness2)
  k_fill
  refine L2.walk_of (l := PySem.Challenge.rw_quietcount_k10_stairs_and_what_is_none) (n := 63) (k := 6) (x := "script") (CX := fun _ => L2.CX0) (sp := fun w => DL.spD _ 1 DL.φ_law) rfl (by decide) rfl ⟨rfl, by decide, by decide⟩ (fun w h Y => PySem.W.kIn_of Y) ?F (fun _ _ a ns hl _ hS => DL.end_sp DL.math hl hS) (fun _ _ _ _ _ h => h)
  case F =>
    intro w mg fa h KX G hmg
    refine' DL.all_mk KX G hmg ?a0 ?l0 ?c0 ?k0 ?a1 ?l1 ?c1 ?k1 ?a2 ?l2 ?c2 ?k2 ?a3 ?l3 ?c3 ?k3 ?a4 ?l4 ?c4 ?k4 ?a5 ?l5 ?c5 ?k5 ?a6 ?l6 ?c6 ?k6 ?a7 ?l7 ?c7 ?k7 ?a8 ?l8 ?c8 ?k8 ?a9 ?l9 ?c9 ?k9 ?a10 ?l10 ?c10 ?k10 ?a11 ?l11 ?c11 ?k11 ?a12 ?l12 ?c12 ?k12 ?a13 ?l13 ?c13 ?k13 ?a14 ?l14 ?c14 ?k14 ?a15 ?l15 ?c15 ?k15 ?a16 ?l16 ?c16 ?k16 ?a17 ?l17 ?c17 ?k17 ?z_isinstance ?z_int ?z_bool ?z_list ?z_tuple ?z_len ?z_all ?z_zip ?z_abs ?z_max ?z_sorted ?z_range ?z_min ?z_enumerate ?z_repr ?q_MOST_LIMIT
    (case a0 => k_is); (case l0 => k_is); (case c0 => k_is); (case k0 => k_is); (case a1 => k_is); (case l1 => k_is); (case c1 => k_is); (case k1 => k_is); (case a2 => k_is); (case l2 => k_is); (case c2 => k_is); (case k2 => k_is); (case a3 => k_is); (case l3 => k_is); (case c3 => k_is); (case k3 => k_is); (case a4 => k_is); (case l4 => k_is); (case c4 => k_is); (case k4 => k_is); (case a5 => k_is); (case l5 => k_is); (case c5 => k_is); (case k5 => k_is); (case a6 => k_is); (case l6 => k_is); (case c6 => k_is); (case k6 => k_is); (case a7 => k_is); (case l7 => k_is); (case c7 => k_is); (case k7 => k_is); (case a8 => k_is); (case l8 => k_is); (case c8 => k_is); (case k8 => k_is); (case a9 => k_is); (case l9 => k_is); (case c9 => k_is); (case k9 => k_is); (case a10 => k_is); (case l10 => k_is); (case c10 => k_is); (case k10 => k_is); (case a11 => k_is); (case l11 => k_is); (case c11 => k_is); (case k11 => k_is); (case a12 => k_is); (case l12 => k_is); (case c12 => k_is); (case k12 => k_is); (case a13 => k_is); (case l13 => k_is); (case c13 => k_is); (case k13 => k_is); (case a14 => k_is); (case l14 => k_is); (case c14 => k_is); (case k14 => k_is); (case a15 => k_is); (case l15 => k_is); (case c15 => k_is); (case k15 => k_is); (case a16 => k_is); (case l16 => k_is); (case c16 => k_is); (case k16 => k_is); (case a17 => k_is); (case l17 => k_is); (case c17 => k_is); (case k17 => k_is); (case z_isinstance => k_is); (case z_int => k_is); (case z_bool => k_is); (case z_list => k_is); (case z_tuple => k_is); (case z_len => k_is); (case z_all => k_is); (case z_zip => k_is); (case z_abs => k_is); (case z_max => k_is); (case z_sorted => k_is); (case z_range => k_is); (case z_min => k_is); (case z_enumerate => k_is); (case z_repr => k_is); (case q_MOST_LIMIT => k_is)

