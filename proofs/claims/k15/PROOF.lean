import PyProof.Rows.All
import HandS.Head0
import HandS.Head1
import HandS.Head2
import HandS.HeadHook1
import HandS.HeadHook2
import HandS.HeadHook3
import HandS.HeadHook4
import HandS.Words
import Wide.All
import OpenK.AllK
import Wide.FinOn
import HandS.ForMost
import HandS.Zip
import HandS.Walk
import HandS.IsInst
import HandS.SortKw
import HandS.TupAny
import HandS.TupLe
import HandS.NoneIn
import HandS.TryOnly
import HandS.Flow
import HandS.Wide
import HandS.Exc
import HandS.ExcOwn
import HandS.WordsExc
import HandS.CallSlots
import KE.SortData
import HandS.Lambda
import KE.DataEq
import KE.DataCmp
import KE.DataMinMax
import KE.DatumOrd
import KE.DatumMore
import KE.KDictItemsList
import KE.GoesEnum
import KE.KDictZip
import HandS.Conv
import HandS.Style
import HandS.More
import HandS.Dict
import KE.KExcSuper
import HandS.ExcInit
import HandS.ExcIs
import HandS.ExcField
import HandS.Deep
import KE.KExcIs
import HandS.EndTab
import HandS.Defaults
import HandS.Text
import PySem.Challenge.RW_quietcount_k15_entries_and_what_they_are
set_option Elab.async false
set_option linter.all false
set_option maxRecDepth 100000
set_option autoImplicit false
set_option maxHeartbeats 4000000
/-! EH: the head by facts: own exceptions, the law's table, the dict of the modules. -/
namespace DL
open PySem PySem.Spec PyProof.Rows He
/-! ### an own exception class -/
def newB : List (Option Value) → Bool
  | [_, _, _, _, some (.builtin n), _] => decide (n = "ValueError.__new__")
  | _ => false
theorem newB_ok {l : List (Option Value)} (h : newB l = true) : ∃ k0 k1 k2 k3 k5, l = [k0, k1, k2, k3, some (.builtin "ValueError.__new__"), k5] := by
  unfold newB at h
  split at h
  · rename_i k0 k1 k2 k3 n k5
    have e : n = "ValueError.__new__" := of_decide_eq_true h
    rw [e]
    exact ⟨k0, k1, k2, k3, k5, rfl⟩
  · cases h
def clsB (K : PySem.W.Frag) (c : Str) (chain : List Value) : Bool := match K.lookup (ga K c) with
  | some ⟨.type t, _, .cls cd, sl⟩ => decide (t = "type") && (decide (cd.name = c) && (decide (cd.mro = .ref (ga K c) :: chain) && (cd.hasDict && (!cd.hasDel && newB sl.toList))))
  | _ => false
theorem clsB_ok {K : PySem.W.Frag} {c : Str} {chain : List Value} (h : clsB K c chain = true) : ∃ (q : Str) (N : Addr) (bs : List Value) (sn : List Str) (sub : List Value) (ab : Bool) (col : Option Bool) (dd : Option Addr) (k0 k1 k2 k3 k5 : Option Value),
    K.lookup (ga K c) = some (excClassObj c q (ga K c) N bs chain true sn sub ab col dd k0 k1 k2 k3 k5 "ValueError.__new__") := by
  unfold clsB at h
  cases e : K.lookup (ga K c) with
  | none =>
    rw [e] at h
    cases h
  | some o =>
    obtain ⟨oc, dd, dt, sl⟩ := o
    rw [e] at h
    cases oc with
    | type t =>
      cases dt with
      | cls cd =>
        obtain ⟨nm, bs, mro, N, q, hd, sn, sub, ab, col, del⟩ := cd
        obtain ⟨h1, h⟩ := ba h
        obtain ⟨h2, h⟩ := ba h
        obtain ⟨h3, h⟩ := ba h
        obtain ⟨h4, h⟩ := ba h
        obtain ⟨h5, h⟩ := ba h
        have e1 : t = "type" := of_decide_eq_true h1
        have e2 : nm = c := of_decide_eq_true h2
        have e3 : mro = .ref (ga K c) :: chain := of_decide_eq_true h3
        have e4 : hd = true := h4
        have e5 : del = false := by simpa using h5
        obtain ⟨k0, k1, k2, k3, k5, e6⟩ := newB_ok h
        have e7 : sl = #[k0, k1, k2, k3, some (.builtin "ValueError.__new__"), k5] := by
          obtain ⟨sl⟩ := sl
          have e6 : sl = _ := e6
          rw [e6]
        subst e1 e2 e3 e4 e5 e7
        exact ⟨q, N, bs, sn, sub, ab, col, dd, k0, k1, k2, k3, k5, rfl⟩
      | _ => cases h
    | _ => cases dt <;> cases h
/-! ### its __init__ -/
structure InitD where
  c : Str
  qual : Str
  params : Arguments
  body : List Stmt
  scope : Scope
abbrev InV : Type := Option (Str × Str × Arguments × FuncBody × Scope × Addr × List Str × Addr)
def inAd (K : PySem.W.Frag) (c : Str) : Addr := ma K (ga K c) "__init__"
def inObs (K : PySem.W.Frag) (c : Str) : InV := match K.lookup (inAd K c) with
  | some ⟨_, _, .func fd, _⟩ => some (fd.name, fd.qualname, fd.params, fd.body, fd.scope, fd.globals, fd.closure.map fun q => q.1, fd.builtins)
  | _ => none
def InitD.val (d : InitD) : InV := some ("__init__", d.qual, d.params, .stmts d.body, d.scope, mainGlobals, ["__class__"], builtinsNs)
def fileB (K : PySem.W.Frag) (file : Str) (u : Addr) : Bool := match K.lookup u with
  | some ⟨_, _, .fields vs, _⟩ => (match (vs[2]? : Option Value) with
    | some (.str f _) => file == f
    | _ => false)
  | _ => false
theorem fileB_ok {K : PySem.W.Frag} {file : Str} {u : Addr} (h : fileB K file u = true) : ∃ cl dd vs sl f t, K.lookup u = some ⟨cl, dd, .fields vs, sl⟩ ∧ vs[2]? = some (.str f t) ∧ (file == f) = true := by
  unfold fileB at h
  split at h
  · rename_i cl dd vs sl e
    split at h
    · rename_i f t e2
      exact ⟨cl, dd, vs, sl, f, t, e, e2, h⟩
    · cases h
  · cases h
def cellB (K : PySem.W.Frag) (C m : Addr) : Bool := match K.lookup m with
  | some ⟨_, _, .cell (some (.ref C')), _⟩ => decide (C' = C)
  | _ => false
theorem cellB_ok {K : PySem.W.Frag} {C m : Addr} (h : cellB K C m = true) : ∃ cl dd sl, K.lookup m = some ⟨cl, dd, .cell (some (.ref C)), sl⟩ := by
  unfold cellB at h
  split at h
  · rename_i cl dd C' sl e
    have e2 : C' = C := of_decide_eq_true h
    rw [e2] at e
    exact ⟨cl, dd, sl, e⟩
  · cases h
def nonB : Value → Bool
  | .none => true
  | _ => false
theorem nonB_ok {v : Value} (h : nonB v = true) : v = .none := by cases v <;> first | rfl | cases h
def refB (f : Addr → Bool) : Value → Bool
  | .ref u => f u
  | _ => false
theorem refB_ok {f : Addr → Bool} {v : Value} (h : refB f v = true) : ∃ u, v = .ref u ∧ f u = true := by
  cases v with
  | ref u => exact ⟨u, rfl, h⟩
  | _ => cases h
def cloB (f : Addr → Bool) : List (Str × Addr) → Bool
  | [(_, m)] => f m
  | _ => false
theorem cloB_ok {f : Addr → Bool} {l : List (Str × Addr)} (h : cloB f l = true) : ∃ x m, l = [(x, m)] ∧ f m = true := by
  unfold cloB at h
  split at h
  · rename_i x m
    exact ⟨x, m, rfl, h⟩
  · cases h
def initB (K : PySem.W.Frag) (file c qual : Str) : Bool := match K.lookup (inAd K c) with
  | some ⟨_, _, .func fd, _⟩ => PySem.W.codeIn K fd.code qual && (nonB fd.defaults && (nonB fd.kwdefaults && (refB (fileB K file) fd.code && cloB (cellB K (ga K c)) fd.closure)))
  | _ => false
theorem initB_ok {K : PySem.W.Frag} {file c : Str} {d : InitD} (hc : d.c = c) (h : initB K file c d.qual = true) (e : inObs K d.c = d.val) :
    ∃ (m u : Addr) (ioc idc ipm ict : Value) (iod ian : Option Addr) (isl : Array (Option Value)) (ucl : Value) (udd : Option Addr) (uv : Array Value) (us : Array (Option Value)) (uf : Str) (ut : Tok) (mc : Value) (md : Option Addr) (ms : Array (Option Value)),
      K.lookup (inAd K c) = some ⟨ioc, iod, .func (PySem.W.ksFn "__init__" d.qual d.params d.body d.scope .none .none idc ipm ian (.ref u) ict m), isl⟩ ∧ PySem.W.codeIn K (.ref u) d.qual = true ∧
      K.lookup u = some ⟨ucl, udd, .fields uv, us⟩ ∧ uv[2]? = some (.str uf ut) ∧ (file == uf) = true ∧ K.lookup m = some ⟨mc, md, .cell (some (.ref (ga K c))), ms⟩ := by
  subst hc
  unfold initB at h
  unfold inObs at e
  cases q : K.lookup (inAd K d.c) with
  | none =>
    rw [q] at h
    cases h
  | some o =>
    obtain ⟨oc, od, dt, osl⟩ := o
    rw [q] at h e
    cases dt with
    | func fd =>
      obtain ⟨n1, n2, n3, n4, n5, n6, n7, n8, n9, n10, n11, n12, n13, n14, n15⟩ := fd
      have e2 : (some (n1, n2, n3, n4, n5, n6, n7.map (fun q => q.1), n15) : InV) = (some ("__init__", d.qual, d.params, FuncBody.stmts d.body, d.scope, mainGlobals, ["__class__"], builtinsNs) : InV) := e
      simp only [Option.some.injEq, Prod.mk.injEq] at e2
      obtain ⟨h1, h2, h3, h4, h5, h6, h7, h8⟩ := e2
      obtain ⟨c1, h⟩ := ba h
      obtain ⟨c2, h⟩ := ba h
      obtain ⟨c3, h⟩ := ba h
      obtain ⟨c4, c5⟩ := ba h
      have d1 : n8 = .none := nonB_ok c2
      have d2 : n9 = .none := nonB_ok c3
      obtain ⟨u, d3, f1⟩ := refB_ok (v := n13) c4
      obtain ⟨x, m, d4, f2⟩ := cloB_ok (l := n7) c5
      obtain ⟨cl, dd, vs, sl, f, t, g1, g2, g3⟩ := fileB_ok f1
      obtain ⟨mc, md, ms, g4⟩ := cellB_ok f2
      have c1' : PySem.W.codeIn K n13 d.qual = true := c1
      subst d1 d2 d3 d4 h1 h2 h3 h4 h5 h6 h8
      have hx : x = "__class__" := by simpa using h7
      subst hx
      exact ⟨m, u, oc, n10, n11, n14, od, n12, osl, cl, dd, vs, sl, f, t, mc, md, ms, rfl, c1', g1, g2, g3, g4⟩
    | _ => cases h
/-- a class that is raised -/
def excB (K : PySem.W.Frag) (file c qual : Str) (fs : List Str) : Bool :=
  eqO (PySem.W.findIn K (.ref (ga K c)) "__setattr__") (some (some (.builtin "object.__setattr__"))) && (eqO (PySem.W.findIn K (.ref (ga K c)) "__getattribute__") (some (some (.builtin "BaseException.__getattribute__"))) && (eqO (PySem.W.findIn K (.ref (ga K c)) "__getattr__") (some none) &&
  (eqO (PySem.W.findIn K (.ref (ga K c)) "__class__") (some (some (.builtin "object.__class__"))) && (eqO (PySem.W.findIn K (.ref (ga K c)) "__init__") (some (some (.ref (inAd K c)))) && (decide (PySem.W.typeIn K (.ref (inAd K c)) = some (.type "function")) && (PySem.W.keepIn K (.ref (ga K c)) &&
  (eqO (PySem.W.ks_superIn K (ga K c) (ga K c) "__init__") (some (some (.builtin "ValueError.__init__"))) && (initB K file c qual && fs.all fun f => eqO (PySem.W.findIn K (.ref (ga K c)) f) (some none)))))))))
structure ExcOk (K : PySem.W.Frag) (file c qual : Str) (fs : List Str) : Prop where
  sa : PySem.W.findIn K (.ref (ga K c)) "__setattr__" = some (some (.builtin "object.__setattr__"))
  gat : PySem.W.findIn K (.ref (ga K c)) "__getattribute__" = some (some (.builtin "BaseException.__getattribute__"))
  gg : PySem.W.findIn K (.ref (ga K c)) "__getattr__" = some none
  ha : PySem.W.findIn K (.ref (ga K c)) "__class__" = some (some (.builtin "object.__class__"))
  ic : PySem.W.findIn K (.ref (ga K c)) "__init__" = some (some (.ref (inAd K c)))
  ti : PySem.W.typeIn K (.ref (inAd K c)) = some (.type "function")
  kc : PySem.W.keepIn K (.ref (ga K c)) = true
  su : PySem.W.ks_superIn K (ga K c) (ga K c) "__init__" = some (some (.builtin "ValueError.__init__"))
  init : initB K file c qual = true
  nn : ∀ f ∈ fs, PySem.W.findIn K (.ref (ga K c)) f = some none
theorem excB_ok {K : PySem.W.Frag} {file c qual : Str} {fs : List Str} (h : excB K file c qual fs = true) : ExcOk K file c qual fs := by
  obtain ⟨h1, h⟩ := ba h
  obtain ⟨h2, h⟩ := ba h
  obtain ⟨h3, h⟩ := ba h
  obtain ⟨h4, h⟩ := ba h
  obtain ⟨h5, h⟩ := ba h
  obtain ⟨h6, h⟩ := ba h
  obtain ⟨h7, h⟩ := ba h
  obtain ⟨h8, h⟩ := ba h
  obtain ⟨h9, h⟩ := ba h
  exact ⟨eqO_ok h1, eqO_ok h2, eqO_ok h3, eqO_ok h4, eqO_ok h5, of_decide_eq_true h6, h7, eqO_ok h8, h9, fun f hf => eqO_ok (List.all_eq_true.mp h f hf)⟩
/-- the __init__ in a class's text -/
def clsInit (st : Stmt) : Stmt := match st with
  | .ClassDef _ _ _ b _ _ _ _ _ _ _ => b.getD 0 (.Pass ⟨0, 0, 0, 0⟩)
  | _ => .Pass ⟨0, 0, 0, 0⟩
/-! ### what all raised classes want -/
def genB (K : PySem.W.Frag) : Bool := decide (PySem.W.specialIn K (.builtin "object.__class__") "__get__" = some (some (.builtin "getset_descriptor.__get__"))) && (decide (PySem.W.takesIn K (.builtin "object.__class__") = some true) &&
  (eqO (PySem.W.nsIn K cStatics "thirdparty.any") (some none) && eqO (PySem.W.nsIn K mainGlobals "super") (some none)))
theorem genB_ok {K : PySem.W.Frag} (h : genB K = true) : PySem.W.specialIn K (.builtin "object.__class__") "__get__" = some (some (.builtin "getset_descriptor.__get__")) ∧ PySem.W.takesIn K (.builtin "object.__class__") = some true ∧
    PySem.W.nsIn K cStatics "thirdparty.any" = some none ∧ PySem.W.nsIn K mainGlobals "super" = some none := by
  obtain ⟨h1, h⟩ := ba h
  obtain ⟨h2, h⟩ := ba h
  obtain ⟨h3, h4⟩ := ba h
  exact ⟨of_decide_eq_true h1, of_decide_eq_true h2, eqO_ok h3, eqO_ok h4⟩
/-! ### the Hook -/
/-- the dict of the modules -/
def SMb0 (base : Heap) : Prop := ∃ o es n, base.get? sysModules = some o ∧ o.cls = .type "dict" ∧ o.data = .dict es n
def smB (g : Addr → Option Obj) : Bool := match g sysModules with
  | some ⟨.type c, _, .dict _ _, _⟩ => decide (c = "dict")
  | _ => false
theorem smB_ok {h : Heap} (e : smB h.get? = true) : SMb0 h := by
  unfold smB at e
  split at e
  · rename_i c dd es n sl q
    have e2 : c = "dict" := of_decide_eq_true e
    exact ⟨_, es, n, q, by rw [e2], rfl⟩
  · cases e
/-- what is read: what the names reach, the statics -/
def asZ (g : Addr → Option Obj) (n : Nat) : List Addr := cStatics :: asD g n
def obsK (fa : List Fa) (fn : List DefD) (tf : List Defn) (ex : PySem.W.Frag → Bool) (g : Addr → Option Obj) (K : PySem.W.Frag) : AlX := (obsT fa fn [] K, ex K && tabsB g tf K)
theorem saysK_of {as : List Addr} {fa : List Fa} {fn : List DefD} {tf : List Defn} {ex : PySem.W.Frag → Bool} {w : World} {h : Heap} (e : obsK fa fn tf ex h.get? (frT h.get? as) = valX fn [] w) : SaysX fa fn [] tf ex w h (frT h.get? as) := by
  have e1 : obsT fa fn [] (frT h.get? as) = valT fn [] w := congrArg (fun z : AlX => z.1) e
  have e2 : (ex (frT h.get? as) && tabsB h.get? tf (frT h.get? as)) = true := congrArg (fun z : AlX => z.2) e
  obtain ⟨x1, x2⟩ := ba e2
  have one : ∀ p ∈ tf, PySem.W.codeHdIn (frT h.get? as) (cT (frT h.get? as) p).1 (cT (frT h.get? as) p).2 = true ∧ ∃ o, h.get? (cT (frT h.get? as) p).2 = some o ∧ emptyTab o = true := by
    intro p hp
    obtain ⟨x3, x4⟩ := ba (List.all_eq_true.mp x2 p hp)
    refine ⟨x3, ?_⟩
    generalize h.get? (cT (frT h.get? as) p).2 = z at x4
    cases z with
    | none => cases x4
    | some o => exact ⟨o, rfl, x4⟩
  refine ⟨e1, x1, fun p hp => (one p hp).1, fun p hp => ?_, fun p hp => ?_⟩
  · obtain ⟨_, o, q, z⟩ := one p hp
    exact frT_none q z
  · obtain ⟨_, o, q, z⟩ := one p hp
    rw [q, emptyTab_eq z]
abbrev AlZ : Type := AlX × List InV × Bool
def obsZ (n : Nat) (fa : List Fa) (fn : List DefD) (tf : List Defn) (ins : List InitD) (ex : PySem.W.Frag → Bool) (sm : Bool) (g : Addr → Option Obj) : AlZ := (obsK fa fn tf ex g (frT g (asZ g n)), ins.map (fun d => inObs (frT g (asZ g n)) d.c), !sm || smB g)
def valZ (fn : List DefD) (ins : List InitD) (w : World) : AlZ := (valX fn [] w, ins.map InitD.val, true)
structure SaysZ (fa : List Fa) (fn : List DefD) (tf : List Defn) (ins : List InitD) (ex : PySem.W.Frag → Bool) (sm : Bool) (w : World) (h : Heap) (K : PySem.W.Frag) : Prop where
  x : SaysX fa fn [] tf ex w h K
  ini : ins.map (fun d => inObs K d.c) = ins.map InitD.val
  sm : sm = true → SMb0 h
theorem SMb0.keeps {h h' : Heap} (k : ∀ b o, h.get? b = some o → h'.get? b = some o) : SMb0 h → SMb0 h' := fun ⟨o, es, n, e, r⟩ => ⟨o, es, n, k _ _ e, r⟩
def hookZ (n : Nat) (fa : List Fa) (fn : List DefD) (tf : List Defn) (ins : List InitD) (ex : PySem.W.Frag → Bool) (sm : Bool) : PySem.W.Hook where
  α := AlZ
  obs := fun s => obsZ n fa fn tf ins ex sm s.heap.get?
  val := fun w => valZ fn ins w
  says := fun w h => ∃ K : PySem.W.Frag, K.In h ∧ SaysZ fa fn tf ins ex sm w h K
  of := fun w s e => ⟨_, frT_in, saysK_of (congrArg (fun z : AlZ => z.1) e), congrArg (fun z : AlZ => z.2.1) e, fun hs => by
    have e3 : (!sm || smB s.heap.get?) = true := congrArg (fun z : AlZ => z.2.2) e
    rw [hs] at e3
    exact smB_ok (by simpa using e3)⟩
  keeps := fun w h h' ⟨K, hK, c⟩ k => ⟨K, PySem.W.Frag.In.keeps hK k, ⟨⟨c.x.t, c.x.more, c.x.hd, c.x.out, fun p hp => k _ _ (c.x.empty p hp)⟩, c.ini, fun hs => SMb0.keeps k (c.sm hs)⟩⟩
theorem obsZ_eq {n : Nat} {fa : List Fa} {fn : List DefD} {tf : List Defn} {ins : List InitD} {ex : PySem.W.Frag → Bool} {sm : Bool} {g : Addr → Option Obj} {s : Shared} (h : ∀ a, g a = s.heap.get? a) : obsZ n fa fn tf ins ex sm g = (hookZ n fa fn tf ins ex sm).obs s := by
  have e : g = s.heap.get? := funext h
  rw [e] <;> rfl
section
variable {fa : List Fa} {fn : List DefD} {tf : List Defn} {ins : List InitD} {ex : PySem.W.Frag → Bool} {sm : Bool} {w : World} {h : Heap} {K : PySem.W.Frag}
theorem SaysZ.fact (c : SaysZ fa fn tf ins ex sm w h K) (i : Nat) {f : Fa} (e : fa[i]? = some f := by rfl) : f.ok K = true := SaysD.fact c.x.t.d i e
theorem SaysZ.glo (c : SaysZ fa fn tf ins ex sm w h K) (i : Nat) {x : Str} (e : fa[i]? = some (.glo x) := by rfl) : PySem.W.nsIn K mainGlobals x = some (some (.ref (ga K x))) := eqO_ok (c.fact i e)
theorem SaysZ.free (c : SaysZ fa fn tf ins ex sm w h K) (i : Nat) {x : Str} (e : fa[i]? = some (.free x) := by rfl) : PySem.W.nsIn K mainGlobals x = some none := eqO_ok (c.fact i e)
theorem SaysZ.int (c : SaysZ fa fn tf ins ex sm w h K) (i : Nat) {x : Str} {z : Int} (e : fa[i]? = some (.int x z) := by rfl) : ∃ t, PySem.W.nsIn K mainGlobals x = some (some (.int z t)) := by
  have c2 : (match PySem.W.nsIn K mainGlobals x with
    | some (some (.int j _)) => decide (j = z)
    | _ => false) = true := c.fact i e
  split at c2
  · rename_i j t q
    have e2 : j = z := of_decide_eq_true c2
    rw [e2] at q
    exact ⟨t, q⟩
  · cases c2
theorem SaysZ.init (c : SaysZ fa fn tf ins ex sm w h K) (i : Nat) {d : InitD} (e : ins[i]? = some d := by rfl) : inObs K d.c = d.val := by
  have e2 : (ins.map fun d => inObs K d.c)[i]? = (ins.map InitD.val)[i]? := by rw [c.ini]
  rw [List.getElem?_map, List.getElem?_map, e] at e2
  exact Option.some.inj e2
end
end DL

namespace DL
open PySem PySem.Spec PyProof.Rows L2
def topS (i : Nat) : Stmt := PySem.Challenge.pw_quietcount_k15_entries_and_what_they_are.main.body.getD i (.Pass ⟨0, 0, 0, 0⟩)
abbrev st_is_integer : Stmt := topS 1
abbrev N_is_integer : List Str := ["value"]
abbrev st_is_between : Stmt := topS 2
abbrev N_is_between : List Str := ["value", "least", "most"]
abbrev st_is_listed : Stmt := topS 3
abbrev N_is_listed : List Str := ["value"]
abbrev st_number_in : Stmt := topS 32
abbrev N_number_in : List Str := ["stair", "limit", "told", "first", "number"]
abbrev st_is_pair_of : Stmt := topS 33
abbrev N_is_pair_of : List Str := ["value", "least", "most"]
abbrev st_fixed_stair : Stmt := topS 34
abbrev N_fixed_stair : List Str := ["stair", "corner"]
abbrev st_need_count : Stmt := topS 35
abbrev N_need_count : List Str := ["count", "most"]
abbrev st_need_limit : Stmt := topS 36
abbrev N_need_limit : List Str := ["limit"]
abbrev st_is_stair : Stmt := topS 37
abbrev N_is_stair : List Str := ["value", "corner", "limit", "number", "one", "other"]
abbrev st_fixed_entry : Stmt := topS 40
abbrev N_fixed_entry : List Str := ["entry"]
abbrev st_worth_in : Stmt := topS 41
abbrev N_worth_in : List Str := ["entry", "limit", "count", "number"]
abbrev st_is_entry : Stmt := topS 43
abbrev N_is_entry : List Str := ["value"]
abbrev st_need_entry : Stmt := topS 42
abbrev N_need_entry : List Str := ["entry"]
abbrev st_worth : Stmt := topS 44
abbrev N_worth : List Str := ["entry", "limit", "count", "told"]
abbrev st__law_pen : Stmt := topS 46
abbrev N__law_pen : List Str := ["script", "cell"]
abbrev st__law_draw : Stmt := topS 47
abbrev N__law_draw : List Str := ["pen", "many", "rest", "at", "cell", "mixed"]
abbrev st__law_pick : Stmt := topS 48
abbrev N__law_pick : List Str := ["pen", "some"]
abbrev st__law_heard_one : Stmt := topS 50
abbrev N__law_heard_one : List Str := ["caught", "words", "kinds"]
abbrev st__law_heard : Stmt := topS 49
abbrev N__law_heard : List Str := ["ask", "found", "caught", "error"]
abbrev st__law_number : Stmt := topS 51
abbrev N__law_number : List Str := ["stair", "limit", "least", "number"]
abbrev st__law_by_limits : Stmt := topS 52
abbrev N__law_by_limits : List Str := ["pairs", "most", "found", "limit", "some", "first", "number"]
abbrev st__law_of_limits : Stmt := topS 53
abbrev N__law_of_limits : List Str := ["row", "found", "limit", "number"]
abbrev st__law_pairs : Stmt := topS 54
abbrev N__law_pairs : List Str := ["pen", "most", "turn"]
abbrev st__law_most : Stmt := topS 55
abbrev N__law_most : List Str := ["stairs", "stair", "corner"]
abbrev st__law_stair : Stmt := topS 56
abbrev N__law_stair : List Str := ["pen", "most", "pairs"]
abbrev st__law_some_stair : Stmt := topS 57
abbrev N__law_some_stair : List Str := ["pen", "most", "found"]
abbrev st__law_own_worth : Stmt := topS 58
abbrev N__law_own_worth : List Str := ["entry", "limit", "count", "number"]
abbrev st_law : Stmt := topS 59
abbrev N_law : List Str := ["script", "pen", "turn", "word", "stair", "entry", "corner", "odd", "lap", "limit", "count", "none", "far", "heard"]
open He
abbrev rowX : PySem.W.OpenRow := PySem.W.OpenLaw.row PySem.Challenge.rw_quietcount_k15_entries_and_what_they_are
def hd_fn : List He.DefD := [⟨("is_integer", none), "is_integer", "is_integer", defArgs st_is_integer, defBody st_is_integer, defScope st_is_integer, [], []⟩, ⟨("is_between", none), "is_between", "is_between", defArgs st_is_between, defBody st_is_between, defScope st_is_between, [], []⟩, ⟨("is_listed", none), "is_listed", "is_listed", defArgs st_is_listed, defBody st_is_listed, defScope st_is_listed, [], []⟩, ⟨("number_in", none), "number_in", "number_in", defArgs st_number_in, defBody st_number_in, defScope st_number_in, [], []⟩, ⟨("is_pair_of", none), "is_pair_of", "is_pair_of", defArgs st_is_pair_of, defBody st_is_pair_of, defScope st_is_pair_of, [], []⟩, ⟨("fixed_stair", none), "fixed_stair", "fixed_stair", defArgs st_fixed_stair, defBody st_fixed_stair, defScope st_fixed_stair, [], []⟩, ⟨("need_count", none), "need_count", "need_count", defArgs st_need_count, defBody st_need_count, defScope st_need_count, [], []⟩, ⟨("need_limit", none), "need_limit", "need_limit", defArgs st_need_limit, defBody st_need_limit, defScope st_need_limit, [], []⟩, ⟨("is_stair", none), "is_stair", "is_stair", defArgs st_is_stair, defBody st_is_stair, defScope st_is_stair, [], []⟩, ⟨("fixed_entry", none), "fixed_entry", "fixed_entry", defArgs st_fixed_entry, defBody st_fixed_entry, defScope st_fixed_entry, [], []⟩, ⟨("worth_in", none), "worth_in", "worth_in", defArgs st_worth_in, defBody st_worth_in, defScope st_worth_in, [], []⟩, ⟨("is_entry", none), "is_entry", "is_entry", defArgs st_is_entry, defBody st_is_entry, defScope st_is_entry, [], []⟩, ⟨("need_entry", none), "need_entry", "need_entry", defArgs st_need_entry, defBody st_need_entry, defScope st_need_entry, [], []⟩, ⟨("worth", none), "worth", "worth", defArgs st_worth, defBody st_worth, defScope st_worth, [.int 0], []⟩, ⟨("_law_pen", none), "_law_pen", "_law_pen", defArgs st__law_pen, defBody st__law_pen, defScope st__law_pen, [], []⟩, ⟨("_law_draw", none), "_law_draw", "_law_draw", defArgs st__law_draw, defBody st__law_draw, defScope st__law_draw, [], []⟩, ⟨("_law_pick", none), "_law_pick", "_law_pick", defArgs st__law_pick, defBody st__law_pick, defScope st__law_pick, [], []⟩, ⟨("_law_heard_one", none), "_law_heard_one", "_law_heard_one", defArgs st__law_heard_one, defBody st__law_heard_one, defScope st__law_heard_one, [], []⟩, ⟨("_law_heard", none), "_law_heard", "_law_heard", defArgs st__law_heard, defBody st__law_heard, defScope st__law_heard, [], []⟩, ⟨("_law_number", none), "_law_number", "_law_number", defArgs st__law_number, defBody st__law_number, defScope st__law_number, [], []⟩, ⟨("_law_by_limits", none), "_law_by_limits", "_law_by_limits", defArgs st__law_by_limits, defBody st__law_by_limits, defScope st__law_by_limits, [], []⟩, ⟨("_law_of_limits", none), "_law_of_limits", "_law_of_limits", defArgs st__law_of_limits, defBody st__law_of_limits, defScope st__law_of_limits, [], []⟩, ⟨("_law_pairs", none), "_law_pairs", "_law_pairs", defArgs st__law_pairs, defBody st__law_pairs, defScope st__law_pairs, [], []⟩, ⟨("_law_most", none), "_law_most", "_law_most", defArgs st__law_most, defBody st__law_most, defScope st__law_most, [], []⟩, ⟨("_law_stair", none), "_law_stair", "_law_stair", defArgs st__law_stair, defBody st__law_stair, defScope st__law_stair, [], []⟩, ⟨("_law_some_stair", none), "_law_some_stair", "_law_some_stair", defArgs st__law_some_stair, defBody st__law_some_stair, defScope st__law_some_stair, [], []⟩, ⟨("_law_own_worth", none), "_law_own_worth", "_law_own_worth", defArgs st__law_own_worth, defBody st__law_own_worth, defScope st__law_own_worth, [], []⟩, ⟨("law", none), "law", "law", defArgs st_law, defBody st_law, defScope st_law, [], []⟩]
def hd_fa : List He.Fa := [.glo "is_integer", .glo "is_between", .glo "is_listed", .glo "number_in", .glo "is_pair_of", .glo "fixed_stair", .glo "need_count", .glo "need_limit", .glo "is_stair", .glo "fixed_entry", .glo "worth_in", .glo "is_entry", .glo "need_entry", .glo "worth", .glo "_law_pen", .glo "_law_draw", .glo "_law_pick", .glo "_law_heard_one", .glo "_law_heard", .glo "_law_number", .glo "_law_by_limits", .glo "_law_of_limits", .glo "_law_pairs", .glo "_law_most", .glo "_law_stair", .glo "_law_some_stair", .glo "_law_own_worth", .glo "law", .glo "CountError", .glo "BadName", .glo "BadNumber", .glo "BadCell", .glo "BadSide", .glo "BadLetter", .glo "BadWay", .glo "BadGame", .glo "BadStanding", .glo "BadPly", .glo "BadClass", .glo "BadKey", .glo "BadStair", .glo "BadEntry", .glo "BadTable", .glo "BadBook", .glo "BadValue", .glo "BadPaper", .glo "Unlike", .glo "Nothing", .glo "BadText", .glo "TooMany", .free "isinstance", .free "int", .free "bool", .free "list", .free "tuple", .free "len", .free "all", .free "zip", .free "str", .free "abs", .free "range", .free "min", .free "enumerate", .free "max", .free "repr", .int "MOST_LIMIT" 1000000, .glo "WORDS"]
abbrev in_BadNumber : Stmt := clsInit (topS 7)
abbrev in_BadEntry : Stmt := clsInit (topS 21)
def hd_ins : List InitD := [⟨"BadNumber", "BadNumber.__init__", defArgs in_BadNumber, defBody in_BadNumber, defScope in_BadNumber⟩, ⟨"BadEntry", "BadEntry.__init__", defArgs in_BadEntry, defBody in_BadEntry, defScope in_BadEntry⟩]
def hd_file : Str := PySem.Challenge.pw_quietcount_k15_entries_and_what_they_are.main.file
def hd_ex (K : PySem.W.Frag) : Bool := genB K && (clsB K "CountError" [.type "ValueError", .type "Exception", .type "BaseException", .type "object"] && (clsB K "BadName" (.ref (ga K "CountError") :: [.type "ValueError", .type "Exception", .type "BaseException", .type "object"]) && (clsB K "BadNumber" (.ref (ga K "CountError") :: [.type "ValueError", .type "Exception", .type "BaseException", .type "object"]) && (clsB K "BadCell" (.ref (ga K "CountError") :: [.type "ValueError", .type "Exception", .type "BaseException", .type "object"]) && (clsB K "BadSide" (.ref (ga K "CountError") :: [.type "ValueError", .type "Exception", .type "BaseException", .type "object"]) && (clsB K "BadLetter" (.ref (ga K "CountError") :: [.type "ValueError", .type "Exception", .type "BaseException", .type "object"]) && (clsB K "BadWay" (.ref (ga K "CountError") :: [.type "ValueError", .type "Exception", .type "BaseException", .type "object"]) && (clsB K "BadGame" (.ref (ga K "CountError") :: [.type "ValueError", .type "Exception", .type "BaseException", .type "object"]) && (clsB K "BadStanding" (.ref (ga K "CountError") :: [.type "ValueError", .type "Exception", .type "BaseException", .type "object"]) && (clsB K "BadPly" (.ref (ga K "CountError") :: [.type "ValueError", .type "Exception", .type "BaseException", .type "object"]) && (clsB K "BadClass" (.ref (ga K "CountError") :: [.type "ValueError", .type "Exception", .type "BaseException", .type "object"]) && (clsB K "BadKey" (.ref (ga K "CountError") :: [.type "ValueError", .type "Exception", .type "BaseException", .type "object"]) && (clsB K "BadStair" (.ref (ga K "CountError") :: [.type "ValueError", .type "Exception", .type "BaseException", .type "object"]) && (clsB K "BadEntry" (.ref (ga K "CountError") :: [.type "ValueError", .type "Exception", .type "BaseException", .type "object"]) && (clsB K "BadTable" (.ref (ga K "CountError") :: [.type "ValueError", .type "Exception", .type "BaseException", .type "object"]) && (clsB K "BadBook" (.ref (ga K "CountError") :: [.type "ValueError", .type "Exception", .type "BaseException", .type "object"]) && (clsB K "BadValue" (.ref (ga K "CountError") :: [.type "ValueError", .type "Exception", .type "BaseException", .type "object"]) && (clsB K "BadPaper" (.ref (ga K "CountError") :: [.type "ValueError", .type "Exception", .type "BaseException", .type "object"]) && (clsB K "Unlike" (.ref (ga K "CountError") :: [.type "ValueError", .type "Exception", .type "BaseException", .type "object"]) && (clsB K "Nothing" (.ref (ga K "CountError") :: [.type "ValueError", .type "Exception", .type "BaseException", .type "object"]) && (clsB K "BadText" (.ref (ga K "CountError") :: [.type "ValueError", .type "Exception", .type "BaseException", .type "object"]) && (clsB K "TooMany" (.ref (ga K "CountError") :: [.type "ValueError", .type "Exception", .type "BaseException", .type "object"]) && (excB K hd_file "BadNumber" "BadNumber.__init__" ["value"] && (excB K hd_file "BadEntry" "BadEntry.__init__" ["value"] && (tupB K "WORDS" (List.map Dv.str (["drawn", "won", "lost"] : List Str)) && (true))))))))))))))))))))))))))
abbrev hd_hk : PySem.W.Hook := hookZ 5 hd_fa hd_fn [("law", none)] hd_ins hd_ex true
def hd_ob (s : PySem.W.SharedT) : AlZ := obsZ 5 hd_fa hd_fn [("law", none)] hd_ins hd_ex true (HandSHeadRun.getT s)
theorem hd_eq (s : PySem.W.SharedT) : hd_ob s = hd_hk.obs s.abs := obsZ_eq (HandSHeadRun.getT_eq s)
def hd_n0 : List PySem.Str := ["is_integer", "is_between", "is_listed", "CountError", "BadName", "BadNumber", "BadCell", "BadSide", "BadLetter", "BadMove", "BadTurn", "BadWay", "BadKind", "BadGame", "BadStanding", "BadPly", "BadClass", "BadKey", "BadStair", "BadEntry", "BadTable", "BadBook", "BadValue", "BadPaper", "Unlike", "Nothing", "BadText", "TooMany", "MOST_LIMIT", "number_in"]
def hd_n1 : List PySem.Str := ["is_pair_of", "fixed_stair", "need_count", "need_limit", "is_stair", "WORDS", "fixed_entry", "worth_in", "need_entry", "is_entry", "worth", "_law_pen", "_law_draw", "_law_pick", "_law_heard", "_law_heard_one", "_law_number", "_law_by_limits", "_law_of_limits", "_law_pairs", "_law_most", "_law_stair", "_law_some_stair", "_law_own_worth"]
def hd_names : List PySem.Str := hd_n0 ++ hd_n1
set_option maxHeartbeats 0 in
theorem hd_run (w : World) : HandSHeadRun.RunEq rowX (PySem.W.view rowX.prog [59]) hd_hk hd_ob 20000 hd_names w := by
  intro os
  kernel_rfl
end DL

/-! DL: a layer over HandS in which a def is a function on plain data. -/
namespace DL
open PySem PySem.Spec PyProof.Rows L2

/-! ### data, and what it is in a heap -/
abbrev St := L2.St
/-- the frag, and the module's globals -/
structure Kt where
  fr : PySem.W.Frag
  mg : Str → Option Value
instance : CoeOut Kt PySem.W.Frag := ⟨Kt.fr⟩
def kt (X : L2.Cx) : Kt := ⟨X.K, X.mg⟩
inductive D where
  | non | bl (b : Bool) | int (i : Int) | str (x : Str) | lst (xs : List D) | tup (xs : List D) | dct (ks xs : List D) | mu (n : Nat) | ty (n : String)
  | exn (c : Str) (ns : List Str) (xs : List D) | obj (c : Str) (ns : List Str) (xs : List D)
/-! keys of dicts, as data -/
def keyD : Key → D
  | .inl i => .int i
  | .inr x => .str x
/-- the dict at a: its keys, its values -/
def DctAt (F : Hp) (a : Addr) (ks : List D) (vs : List V) : Prop :=
  (∃ kvs : List (Key × V), F a = some (.dK kvs) ∧ ks = kvs.map (fun p => keyD p.1) ∧ vs = kvs.map Prod.snd) ∨
  (∃ kvs : List (List Key × V), F a = some (.dT kvs) ∧ ks = kvs.map (fun p => .tup (p.1.map keyD)) ∧ vs = kvs.map Prod.snd)

/-- an exception object of the class C, its dict at dx, held as a value -/
def ExD (C dx a : Addr) : HO := .ext fun h => ∃ (oe : Obj) (vs : Array Value), h.get? a = some oe ∧ oe.cls = .ref C ∧ oe.dict = some dx ∧ oe.data = .fields vs
/-! a value that is such data: what is read of it stands in F, which never changes; ι: where the things that change lie -/
mutual
def Rp (K : Kt) (F : Hp) (ι : List Addr) : D → V → Prop
  | .non, v => v = .non
  | .bl b, v => v = .bl b
  | .int i, v => v = .int i
  | .str x, v => v = .str x
  | .lst xs, v => ∃ a vs, v = .ref a ∧ SqL K F a vs ∧ vs.length ≤ sizeLine ∧ RpAll K F ι xs vs
  | .tup xs, v => ∃ a vs, v = .ref a ∧ SqT K F a vs ∧ vs.length ≤ sizeLine ∧ RpAll K F ι xs vs
  | .dct ks xs, v => ∃ a vs, v = .ref a ∧ DctAt F a ks vs ∧ RpAll K F ι xs vs
  | .mu n, v => ∃ a, v = .ref a ∧ ι[n]? = some a
  | .ty n, v => v = .ty n
  | .exn c ns xs, v => ∃ a C dx vs, v = .ref a ∧ K.mg c = some (.ref C) ∧ F a = some (ExD C dx a) ∧ F dx = some (.xd (ns.zip vs)) ∧ ns.length = xs.length ∧ RpAll K F ι xs vs
  | .obj c ns xs, v => ∃ a C dx vs, v = .ref a ∧ K.mg c = some (.ref C) ∧ F a = some (.ins C dx (ns.zip vs)) ∧ F dx = some (.own a) ∧ ns.length = xs.length ∧ RpAll K F ι xs vs
def RpAll (K : Kt) (F : Hp) (ι : List Addr) : List D → List V → Prop
  | [], vs => vs = []
  | d :: ds, vs => ∃ v r, vs = v :: r ∧ Rp K F ι d v ∧ RpAll K F ι ds r
end

theorem same_t {K : Kt} {H H' : Hp} {a : Addr} {xs : List V} (e : Same H H') (h : SqT K H a xs) : SqT K H' a xs := by
  rcases h with (h | ⟨o, h⟩) | h
  · exact .inl (.inl (e _ _ h))
  · exact .inl (.inr ⟨o, e _ _ h⟩)
  · exact .inr h
theorem same_d {F F' : Hp} {a : Addr} {ks : List D} {vs : List V} (e : Same F F') (h : DctAt F a ks vs) : DctAt F' a ks vs := by
  rcases h with ⟨kvs, h, r⟩ | ⟨kvs, h, r⟩
  · exact .inl ⟨kvs, e _ _ h, r⟩
  · exact .inr ⟨kvs, e _ _ h, r⟩
theorem pre_get {ι ι' : List Addr} (p : ι <+: ι') {n : Nat} {a : Addr} (h : ι[n]? = some a) : ι'[n]? = some a := by
  obtain ⟨t, rfl⟩ := p
  rw [List.getElem?_append_left (List.getElem?_eq_some_iff.mp h).1]
  exact h
section
variable {K : Kt} {F F' : Hp} {ι ι' : List Addr}
mutual
theorem Rp.mono (e : Same F F') (p : ι <+: ι') : ∀ (d : D) (v : V), Rp K F ι d v → Rp K F' ι' d v
  | .non, _, h => h
  | .bl _, _, h => h
  | .int _, _, h => h
  | .str _, _, h => h
  | .ty _, _, h => h
  | .lst xs, _, ⟨a, vs, h1, h2, hl, h3⟩ => ⟨a, vs, h1, e.seq h2, hl, RpAll.mono e p xs vs h3⟩
  | .tup xs, _, ⟨a, vs, h1, h2, hl, h3⟩ => ⟨a, vs, h1, same_t e h2, hl, RpAll.mono e p xs vs h3⟩
  | .dct ks xs, _, ⟨a, vs, h1, h2, h3⟩ => ⟨a, vs, h1, same_d e h2, RpAll.mono e p xs vs h3⟩
  | .mu n, _, ⟨a, h1, h2⟩ => ⟨a, h1, pre_get p h2⟩
  | .exn c ns xs, _, ⟨a, C, dx, vs, h1, h2, h3, h4, h5, h6⟩ => ⟨a, C, dx, vs, h1, h2, e _ _ h3, e _ _ h4, h5, RpAll.mono e p xs vs h6⟩
  | .obj c ns xs, _, ⟨a, C, dx, vs, h1, h2, h3, h4, h5, h6⟩ => ⟨a, C, dx, vs, h1, h2, e _ _ h3, e _ _ h4, h5, RpAll.mono e p xs vs h6⟩
theorem RpAll.mono (e : Same F F') (p : ι <+: ι') : ∀ (ds : List D) (vs : List V), RpAll K F ι ds vs → RpAll K F' ι' ds vs
  | [], _, h => h
  | d :: ds, _, ⟨v, r, h1, h2, h3⟩ => ⟨v, r, h1, Rp.mono e p d v h2, RpAll.mono e p ds r h3⟩
end
theorem RpAll.len : ∀ {ds : List D} {vs : List V}, RpAll K F ι ds vs → vs.length = ds.length
  | [], _, h => by rw [show _ = [] from h]; rfl
  | d :: ds, _, ⟨v, r, h1, _, h3⟩ => by rw [h1, List.length_cons, List.length_cons, RpAll.len h3]
theorem RpAll.get : ∀ {ds : List D} {vs : List V}, RpAll K F ι ds vs → ∀ {i : Nat} {d : D}, ds[i]? = some d → ∃ v, vs[i]? = some v ∧ Rp K F ι d v
  | [], _, _, i, d, e => by simp at e
  | d :: ds, _, ⟨v, r, h1, h2, h3⟩, 0, d', e => by
    subst h1
    simp only [List.getElem?_cons_zero, Option.some.injEq] at e
    subst e
    exact ⟨v, rfl, h2⟩
  | d :: ds, _, ⟨v, r, h1, h2, h3⟩, i + 1, d', e => by
    subst h1
    exact RpAll.get h3 (by simpa using e)
theorem RpAll.get' : ∀ {ds : List D} {vs : List V}, RpAll K F ι ds vs → ∀ {i : Nat} {v : V}, vs[i]? = some v → ∃ d, ds[i]? = some d ∧ Rp K F ι d v
  | [], _, h, i, v, e => by rw [show _ = [] from h] at e; simp at e
  | d :: ds, _, ⟨v, r, h1, h2, h3⟩, 0, d', e => by
    subst h1
    simp only [List.getElem?_cons_zero, Option.some.injEq] at e
    subst e
    exact ⟨d, rfl, h2⟩
  | d :: ds, _, ⟨v, r, h1, h2, h3⟩, i + 1, d', e => by
    subst h1
    exact RpAll.get' h3 (by simpa using e)
theorem RpAll.append : ∀ {ds es : List D} {vs ws : List V}, RpAll K F ι ds vs → RpAll K F ι es ws → RpAll K F ι (ds ++ es) (vs ++ ws)
  | [], _, _, _, h, q => by rw [show _ = [] from h]; exact q
  | d :: ds, _, _, _, ⟨v, r, h1, h2, h3⟩, q => by subst h1; exact ⟨v, r ++ _, rfl, h2, RpAll.append h3 q⟩
theorem RpAll.take : ∀ {ds : List D} {vs : List V} (n : Nat), RpAll K F ι ds vs → RpAll K F ι (ds.take n) (vs.take n)
  | _, _, 0, _ => by rw [List.take_zero, List.take_zero]; exact rfl
  | [], _, _ + 1, h => by rw [show _ = [] from h]; exact rfl
  | d :: ds, _, n + 1, ⟨v, r, h1, h2, h3⟩ => by subst h1; exact ⟨v, r.take n, rfl, h2, RpAll.take n h3⟩
theorem RpAll.drop : ∀ {ds : List D} {vs : List V} (n : Nat), RpAll K F ι ds vs → RpAll K F ι (ds.drop n) (vs.drop n)
  | _, _, 0, h => by rw [List.drop_zero, List.drop_zero]; exact h
  | [], _, _ + 1, h => by rw [show _ = [] from h]; exact rfl
  | d :: ds, _, n + 1, ⟨v, r, h1, h2, h3⟩ => by subst h1; exact RpAll.drop n h3
theorem RpAll.set : ∀ {ds : List D} {vs : List V} (n : Nat) {d : D} {v : V}, RpAll K F ι ds vs → Rp K F ι d v → RpAll K F ι (ds.set n d) (vs.set n v)
  | [], _, _, _, _, h, _ => by rw [show _ = [] from h]; exact rfl
  | d :: ds, _, 0, _, _, ⟨v, r, h1, h2, h3⟩, q => by subst h1; exact ⟨_, r, rfl, q, h3⟩
  | d :: ds, _, n + 1, _, _, ⟨v, r, h1, h2, h3⟩, q => by subst h1; exact ⟨v, r.set n _, rfl, h2, RpAll.set n h3 q⟩
theorem RpAll.eraseIdx : ∀ {ds : List D} {vs : List V} (n : Nat), RpAll K F ι ds vs → RpAll K F ι (ds.eraseIdx n) (vs.eraseIdx n)
  | [], _, _, h => by rw [show _ = [] from h]; exact rfl
  | d :: ds, _, 0, ⟨v, r, h1, h2, h3⟩ => by subst h1; exact h3
  | d :: ds, _, n + 1, ⟨v, r, h1, h2, h3⟩ => by subst h1; exact ⟨v, r.eraseIdx n, rfl, h2, RpAll.eraseIdx n h3⟩
theorem RpAll.snoc {ds : List D} {vs : List V} {d : D} {v : V} (h : RpAll K F ι ds vs) (q : Rp K F ι d v) : RpAll K F ι (ds ++ [d]) (vs ++ [v]) :=
  h.append ⟨v, [], rfl, q, rfl⟩
end

/-! ### states -/
abbrev Sto := List (List D)
structure Bas where
  F : Hp
  ι : List Addr
  H : Hp
structure Sok (K : Kt) (c : Bas) (S : Sto) : Prop where
  f : Same c.F c.H
  nd : c.ι.Nodup
  len : c.ι.length = S.length
  fi : ∀ a ∈ c.ι, c.F a = none
  s : ∀ (n : Nat) (a : Addr) (ds : List D), c.ι[n]? = some a → S[n]? = some ds → ∃ vs, c.H a = some (.lst vs) ∧ vs.length ≤ sizeLine ∧ RpAll K c.F c.ι ds vs
  nt : ∀ a ps, c.F a ≠ some (.tbl ps)
theorem nt_upd {F : Hp} {p : Addr} {o : HO} (h : ∀ a ps, F a ≠ some (.tbl ps)) (ho : ∀ ps, o ≠ .tbl ps) : ∀ a ps, upd F p o a ≠ some (.tbl ps) := fun a ps e => by
  by_cases hb : a = p
  · rw [hb, upd_same] at e
    exact ho ps (Option.some.inj e)
  · rw [upd_ne hb] at e
    exact h a ps e
/-- the name of all lambdas of the law -/
def lamQ : Str := ("law" : Str) ++ ".<locals>." ++ "<lambda>"
def TabL (H : Hp) (P : Addr) (q : Str) : Prop := q = lamQ → LamX.TabS H P q
structure Step (c c' : Bas) : Prop where
  same : Same c.F c'.F
  grow : ∀ a o, c'.F a = some o → c.F a = some o ∨ c.H a = none
  fr : ∀ a o, c.H a = some o → a ∉ c.ι → (∀ ps, o ≠ .tbl ps) → c'.H a = some o
  dom : ∀ a, c.H a ≠ none → c'.H a ≠ none
  pre : c.ι <+: c'.ι
  new : ∀ a ∈ c'.ι, a ∈ c.ι ∨ c.H a = none
  tab : ∀ P q, TabL c.H P q → TabL c'.H P q
theorem Step.refl (c : Bas) : Step c c := ⟨Same.refl _, fun _ _ h => .inl h, fun _ _ h _ _ => h, fun _ h => h, List.prefix_rfl, fun _ h => .inl h, fun _ _ h => h⟩
/-- tables stay where what is told of them stays -/
theorem tab_of {H H' : Hp} (k : ∀ b o, H b = some o → (∀ ps, o = .tbl ps → H' b = some o) ∧ (∀ q, o = LamX.CodeO b q → H' b = some o)) : ∀ P q, TabL H P q → TabL H' P q := fun P q t0 e0 =>
  let ⟨ps, h1, h2, h3⟩ := t0 e0
  ⟨ps, (k P _ h1).1 ps rfl, h2, fun pos cv hc => by
    obtain ⟨c, e1, e2⟩ := h3 pos cv hc
    exact ⟨c, e1, (k c _ e2).2 q rfl⟩⟩
theorem tab_all {H H' : Hp} (k : ∀ b o, H b = some o → H' b = some o) : ∀ P q, TabL H P q → TabL H' P q := tab_of fun b o e => ⟨fun _ _ => k b o e, fun _ _ => k b o e⟩
theorem codeO_lst {c : Addr} {q : Str} {xs : List V} : LamX.CodeO c q ≠ .lst xs := fun z => by
  unfold LamX.CodeO at z
  cases z
/-- .. where lists alone change -/
theorem tab_lst {H H' : Hp} (k : ∀ b o, H b = some o → (∀ xs, o ≠ .lst xs) → H' b = some o) : ∀ P q, TabL H P q → TabL H' P q :=
  tab_of fun b o e => ⟨fun ps z => k b o e fun xs z2 => (by rw [z] at z2; cases z2), fun q z => k b o e fun xs z2 => codeO_lst (z.symm.trans z2)⟩
/-- no table, no code -/
def Pln (o : HO) : Prop := (∀ ps, o ≠ .tbl ps) ∧ ∀ c q, o ≠ LamX.CodeO c q
theorem pln_lst {xs : List V} : Pln (.lst xs) := ⟨fun _ z => (by cases z), fun _ _ z => codeO_lst z.symm⟩
theorem tab_upd {H : Hp} {a : Addr} {u o : HO} (h : H a = some u) (hp : Pln u) : ∀ P q, TabL H P q → TabL (upd H a o) P q := fun P q =>
  tab_of (fun b u' e => by
    have key : (∀ ps, u' = .tbl ps → upd H a o b = some u') ∧ ∀ q, u' = LamX.CodeO b q → upd H a o b = some u' := by
      by_cases hb : b = a
      · rw [hb, h] at e
        cases e
        exact ⟨fun ps z => absurd z (hp.1 ps), fun q z => absurd z (hp.2 b q)⟩
      · have e' : upd H a o b = some u' := by rw [upd_ne hb]; exact e
        exact ⟨fun _ _ => e', fun _ _ => e'⟩
    exact key) P q
theorem Step.trans {a b c : Bas} (h : Step a b) (q : Step b c) : Step a c where
  same := h.same.trans q.same
  grow := fun x o e => by
    rcases q.grow x o e with e1 | e1
    · exact h.grow x o e1
    · refine .inr (Classical.byContradiction fun n => h.dom x n e1)
  fr := fun x o e n t => q.fr x o (h.fr x o e n t) (fun hm => by
    rcases h.new x hm with r | r
    · exact n r
    · rw [e] at r; cases r) t
  dom := fun x n => q.dom x (h.dom x n)
  pre := h.pre.trans q.pre
  new := fun x hm => by
    rcases q.new x hm with r | r
    · exact h.new x r
    · exact .inr (Classical.byContradiction fun n => h.dom x n r)
  tab := fun P n t => q.tab P n (h.tab P n t)
theorem Step.rp {K : Kt} {c c' : Bas} (h : Step c c') {d : D} {v : V} (r : Rp K c.F c.ι d v) : Rp K c'.F c'.ι d v := Rp.mono h.same h.pre d v r
theorem Step.rpAll {K : Kt} {c c' : Bas} (h : Step c c') {ds : List D} {vs : List V} (r : RpAll K c.F c.ι ds vs) : RpAll K c'.F c'.ι ds vs := RpAll.mono h.same h.pre ds vs r

inductive Slot where
  | sh (d : D) | own (ds : List D) | fn (a : Addr)
abbrev Env := List (Option Slot)
/-- a list that only a name of the def knows: it may change -/
def OwnAt (K : Kt) (B : Hp) (c : Bas) (ds : List D) (v : V) : Prop :=
  ∃ a vs, v = .ref a ∧ c.H a = some (.lst vs) ∧ vs.length ≤ sizeLine ∧ RpAll K c.F c.ι ds vs ∧ c.F a = none ∧ a ∉ c.ι ∧ B a = none
def SlotOk (K : Kt) (B : Hp) (c : Bas) : Slot → V → Prop
  | .sh d, v => Rp K c.F c.ι d v
  | .own ds, v => OwnAt K B c ds v
  | .fn a, v => v = .ref a
structure Eok (K : Kt) (B : Hp) (c : Bas) (σ : St) (env : Env) : Prop where
  len : env.length = σ.length
  at_ : ∀ (i : Nat) (x : Slot), env[i]? = some (some x) → ∃ v, σ[i]? = some (some v) ∧ SlotOk K B c x v
  inj : ∀ (i j : Nat) (ds es : List D), env[i]? = some (some (.own ds)) → env[j]? = some (some (.own es)) → i ≠ j → σ[i]? ≠ σ[j]?
theorem OwnAt.step {K : Kt} {B : Hp} {c c' : Bas} {ds : List D} {v : V} (h : OwnAt K B c ds v) (s : Step c c') : OwnAt K B c' ds v := by
  obtain ⟨a, vs, e, h1, hl, h2, h3, h4, h5⟩ := h
  refine ⟨a, vs, e, s.fr a _ h1 h4 (fun ps z => by cases z), hl, s.rpAll h2, ?_, fun hm => ?_, h5⟩
  · cases q : c'.F a with
    | none => rfl
    | some o =>
      rcases s.grow a o q with r | r
      · rw [h3] at r; cases r
      · rw [h1] at r; cases r
  · rcases s.new a hm with r | r
    · exact h4 r
    · rw [h1] at r; cases r
theorem Eok.step {K : Kt} {B : Hp} {c c' : Bas} {σ : St} {env : Env} (h : Eok K B c σ env) (s : Step c c') : Eok K B c' σ env where
  len := h.len
  at_ := fun i x e => by
    obtain ⟨v, h1, h2⟩ := h.at_ i x e
    refine ⟨v, h1, ?_⟩
    cases x with
    | sh d => exact s.rp h2
    | own ds => exact OwnAt.step h2 s
    | fn a => exact h2
  inj := h.inj
/-- where a def began, and what it wants if something is raised -/
structure Bg extends Bas where
  W : WX
/-- the whole state, of a def that began at B -/
structure Stt (K : Kt) (B : Bg) (c : Bas) (S : Sto) (σ : St) (env : Env) : Prop where
  ok : Sok K c S
  env : Eok K B.H c σ env
  st : Step B.toBas c
theorem Stt.step {K : Kt} {B : Bg} {c c' : Bas} {S S' : Sto} {σ : St} {env : Env} (h : Stt K B c S σ env) (s : Step c c') (o : Sok K c' S') : Stt K B c' S' σ env :=
  ⟨o, h.env.step s, h.st.trans s⟩

/-! ### results -/
/-- what is raised: its class, its fields -/
structure Exn where
  c : Str
  ns : List Str
  xs : List D
inductive Res (α : Type) where
  | ok (a : α) (S : Sto)
  | ex (x : Exn) (S : Sto)
  | stuck
def Res.bind {α β : Type} (r : Res α) (f : α → Sto → Res β) : Res β := match r with
  | .ok a S => f a S
  | .ex x S => .ex x S
  | .stuck => .stuck
def Res.noex {α : Type} (r : Res α) : Res α := match r with
  | .ok a S => .ok a S
  | .ex _ _ => .stuck
  | .stuck => .stuck
/-- how it ends: well, with an exception -/
def Post {α : Type} (r : Res α) (P : α → Sto → Prop) (E : Exn → Sto → Prop) : Prop := match r with
  | .ok a S => P a S
  | .ex x S => E x S
  | .stuck => False
theorem Post.bind_eq {α β : Type} {r : Res α} {f : α → Sto → Res β} {P : β → Sto → Prop} {E : Exn → Sto → Prop} : Post (r.bind f) P E = Post r (fun a S => Post (f a S) P E) E := by cases r <;> rfl
theorem Post.imp {α : Type} {r : Res α} {P P' : α → Sto → Prop} {E : Exn → Sto → Prop} (h : Post r P E) (i : ∀ a S, P a S → P' a S) : Post r P' E := by
  cases r with
  | ok a S => exact i a S h
  | ex x S => exact h
  | stuck => exact h
theorem Post.bind_imp {α β : Type} {r : Res α} {f : α → Sto → Res β} {P : β → Sto → Prop} {P' : α → Sto → Prop} {E : Exn → Sto → Prop} (h : Post (r.bind f) P E) (i : ∀ a S, Post (f a S) P E → P' a S) : Post r P' E := by
  rw [Post.bind_eq] at h
  exact h.imp i
theorem Post.cases {α : Type} {r : Res α} {P : α → Sto → Prop} {E : Exn → Sto → Prop} (h : Post r P E) : (∃ a S, r = .ok a S ∧ P a S) ∨ ∃ x S, r = .ex x S ∧ E x S := by
  cases r with
  | ok a S => exact .inl ⟨a, S, rfl, h⟩
  | ex x S => exact .inr ⟨x, S, rfl, h⟩
  | stuck => exact False.elim h
theorem Post.noex {α : Type} {r : Res α} {P : α → Sto → Prop} {E : Exn → Sto → Prop} (h : Post r.noex P E) : ∃ a S, r = .ok a S ∧ P a S := by
  cases r with
  | ok a S => exact ⟨a, S, rfl, h⟩
  | ex x S => exact False.elim h
  | stuck => exact False.elim h
theorem Post.noex_imp {α β : Type} {r : Res α} {f : α → Sto → Res β} {P : β → Sto → Prop} {P' : α → Sto → Prop} {E E' : Exn → Sto → Prop} (h : Post (r.noex.bind f) P E) (i : ∀ a S, Post (f a S) P E → P' a S) : Post r P' E' := by
  cases r with
  | ok a S => exact i a S h
  | ex x S => exact False.elim h
  | stuck => exact False.elim h
theorem Post.nr {α : Type} {r : Res α} {P : α → Sto → Prop} {E : Exn → Sto → Prop} (h : Post r P E) (n : ∀ x S, r ≠ .ex x S) : ∃ a S, r = .ok a S ∧ P a S := by
  cases r with
  | ok a S => exact ⟨a, S, rfl, h⟩
  | ex x S => exact absurd rfl (n x S)
  | stuck => exact False.elim h
theorem Post.noex_bind {α β : Type} {r : Res α} {f : α → Sto → Res β} {P : β → Sto → Prop} {E : Exn → Sto → Prop} (h : Post (r.noex.bind f) P E) : ∃ a S, r = .ok a S ∧ Post (f a S) P E := by
  cases r with
  | ok a S => exact ⟨a, S, rfl, h⟩
  | ex x S => exact False.elim h
  | stuck => exact False.elim h
theorem Post.bind_impE {α β : Type} {r : Res α} {f : α → Sto → Res β} {P : β → Sto → Prop} {P' : α → Sto → Prop} {E : Exn → Sto → Prop} (h : Post (r.bind f) P E) (i : ∀ a S, r = .ok a S → Post (f a S) P E → P' a S) : Post r P' E := by
  cases r with
  | ok a S => exact i a S rfl h
  | ex x S => exact h
  | stuck => exact h
theorem Post.impE {α : Type} {r : Res α} {P P' : α → Sto → Prop} {E E' : Exn → Sto → Prop} (h : Post r P E) (i : ∀ a S, P a S → P' a S) (j : ∀ x S, E x S → E' x S) : Post r P' E' := by
  cases r with
  | ok a S => exact i a S h
  | ex x S => exact j x S h
  | stuck => exact h
theorem Post.of_ok {α : Type} {r : Res α} {a : α} {S : Sto} {P : α → Sto → Prop} {E : Exn → Sto → Prop} (e : r = .ok a S) (h : P a S) : Post r P E := by
  rw [e]
  exact h
theorem Res.bind_ok {α β : Type} {r : Res α} {f : α → Sto → Res β} {b : β} {S' : Sto} (h : r.bind f = .ok b S') : ∃ a S, r = .ok a S ∧ f a S = .ok b S' := by
  cases r with
  | ok a S => exact ⟨a, S, rfl, h⟩
  | ex x S => cases h
  | stuck => cases h
inductive Out where
  | nx (env : Env) | rt (d : D) | bk (env : Env) | ct (env : Env) | rs (x : Exn) (env : Env)
abbrev EE := Env → Sto → Res D
abbrev ET := Env → Sto → Res Bool
abbrev EL := Env → Sto → Res (List D)
abbrev SS := Env → Sto → Res Out
/-- a statement's own part raises -/
def Res.bindS {α : Type} (env : Env) (r : Res α) (f : α → Sto → Res Out) : Res Out := match r with
  | .ok a S => f a S
  | .ex x S => .ok (.rs x env) S
  | .stuck => .stuck
/-- an exception, as it flies -/
def ExnAt (K : Kt) (c : Bas) (x : Exn) (cls : Value) (dx : Addr) : Prop := ∃ C vs, cls = .ref C ∧ K.mg x.c = some (.ref C) ∧ c.F dx = some (.xd (x.ns.zip vs)) ∧ x.ns.length = x.xs.length ∧ RpAll K c.F c.ι x.xs vs
def ExK (K : Kt) (B : Bg) (σ : St) (env : Env) : Exn → Sto → Prop := fun x S' => ∀ c' cls dx, Stt K B c' S' σ env → ExnAt K c' x cls dx → B.W cls (some dx) σ c'.H

/-! ### readings -/
/-- what an operand is: data, or a list that a name owns -/
def Rb (K : Kt) (B : Hp) (c : Bas) (d : D) (v : V) : Prop := Rp K c.F c.ι d v ∨ ∃ ds, d = .lst ds ∧ OwnAt K B c ds v
theorem Rb.step {K : Kt} {B : Hp} {c c' : Bas} {d : D} {v : V} (h : Rb K B c d v) (s : Step c c') : Rb K B c' d v := by
  rcases h with h | ⟨ds, e, h⟩
  · exact .inl (s.rp h)
  · exact .inr ⟨ds, e, h.step s⟩
def tD (K : Kt) (B : Bg) (f : EE) : TE := fun σ H Q => ∃ F ι S env, Stt K B ⟨F, ι, H⟩ S σ env ∧ Post (f env S) (fun d S' => ∀ v c', Step ⟨F, ι, H⟩ c' → Sok K c' S' → Rp K c'.F c'.ι d v → Q v c'.H) (ExK K B σ env)
def tB (K : Kt) (B : Bg) (f : EE) : TE := fun σ H Q => ∃ F ι S env, Stt K B ⟨F, ι, H⟩ S σ env ∧ Post (f env S) (fun d S' => ∀ v c', Step ⟨F, ι, H⟩ c' → Sok K c' S' → Rb K B.H c' d v → Q v c'.H) (ExK K B σ env)
/-- a new list, which nobody knows -/
def NewAt (K : Kt) (c c' : Bas) (ds : List D) (v : V) : Prop :=
  ∃ a vs, v = .ref a ∧ c.H a = none ∧ c'.H a = some (.lst vs) ∧ vs.length ≤ sizeLine ∧ RpAll K c'.F c'.ι ds vs ∧ c'.F a = none ∧ a ∉ c'.ι
def tN (K : Kt) (B : Bg) (f : EL) : TE := fun σ H Q => ∃ F ι S env, Stt K B ⟨F, ι, H⟩ S σ env ∧ Post (f env S) (fun ds S' => ∀ v c', Step ⟨F, ι, H⟩ c' → Sok K c' S' → NewAt K ⟨F, ι, H⟩ c' ds v → Q v c'.H) (ExK K B σ env)
def tT (K : Kt) (B : Bg) (f : ET) : TT := fun σ H Q => ∃ F ι S env, Stt K B ⟨F, ι, H⟩ S σ env ∧ Post (f env S) (fun b S' => ∀ c', Step ⟨F, ι, H⟩ c' → Sok K c' S' → Q b c'.H) (ExK K B σ env)
def RbAll (K : Kt) (B : Hp) (c : Bas) : List D → List V → Prop
  | [], vs => vs = []
  | d :: ds, vs => ∃ v r, vs = v :: r ∧ Rb K B c d v ∧ RbAll K B c ds r
/-- arguments: borrowed, or data alone -/
def tAB (K : Kt) (B : Bg) (f : EL) : TA := fun σ H Q => ∃ F ι S env, Stt K B ⟨F, ι, H⟩ S σ env ∧ Post (f env S) (fun ds S' => ∀ vs c', Step ⟨F, ι, H⟩ c' → Sok K c' S' → RbAll K B.H c' ds vs → Q vs c'.H) (ExK K B σ env)
def tA (K : Kt) (B : Bg) (f : EL) : TA := fun σ H Q => ∃ F ι S env, Stt K B ⟨F, ι, H⟩ S σ env ∧ Post (f env S) (fun ds S' => ∀ vs c', Step ⟨F, ι, H⟩ c' → Sok K c' S' → RpAll K c'.F c'.ι ds vs → Q vs c'.H) (ExK K B σ env)
theorem _root_.L2.PE.imp {X : Cx} {e : Expr} {t t' : TE} (h : PE X e t) (i : ∀ σ H Q, t' σ H Q → t σ H Q) : PE X e t' := ⟨fun pins s σ H Q I q => h.run pins s σ H Q I (i σ H Q q)⟩
theorem _root_.L2.PT.imp {X : Cx} {e : Expr} {t t' : TT} (h : PT X e t) (i : ∀ σ H Q, t' σ H Q → t σ H Q) : PT X e t' := ⟨fun pins s σ H Q I q => h.run pins s σ H Q I (i σ H Q q)⟩
theorem _root_.L2.PW.imp {X : Cx} {e : Expr} {t t' : TT} (h : PW X e t) (i : ∀ σ H Q, t' σ H Q → t σ H Q) : PW X e t' := ⟨fun w pins s σ H Q I q => h.run w pins s σ H Q I (i σ H Q q)⟩
theorem _root_.L2.PA.imp {X : Cx} {es : List Expr} {t t' : TA} (h : PA X es t) (i : ∀ σ H Q, t' σ H Q → t σ H Q) : PA X es t' := ⟨fun pos pins s σ H Q I q => h.run pos pins s σ H Q I (i σ H Q q)⟩
theorem _root_.L2.PS.imp {X : Cx} {st : Stmt} {t t' : TS} (h : PS X st t) (i : ∀ E σ H, t' E σ H → t E σ H) : PS X st t' := ⟨fun pins s σ H E I q => h.run pins s σ H E I (i E σ H q)⟩
theorem _root_.L2.PSs.imp {X : Cx} {st : List Stmt} {t t' : TS} (h : PSs X st t) (i : ∀ E σ H, t' E σ H → t E σ H) : PSs X st t' := ⟨fun pins s σ H E I q => h.run pins s σ H E I (i E σ H q)⟩
/-- with what the state itself tells -/
theorem _root_.L2.PE.impI {X : Cx} {e : Expr} {t t' : TE} (h : PE X e t) (i : ∀ pins s σ H Q, Inv X pins σ H s → t' σ H Q → t σ H Q) : PE X e t' := ⟨fun pins s σ H Q I q => h.run pins s σ H Q I (i pins s σ H Q I q)⟩

section
variable {X : Cx} {K : Kt} {B : Bg}
theorem d_b {e : Expr} {f : EE} (h : PE X e (tD K B f)) : PE X e (tB K B f) := h.imp fun σ H Q ⟨F, ι, S, env, st, e⟩ => ⟨F, ι, S, env, st, e.imp fun d S' q v c' s o r => q v c' s o (.inl r)⟩
/-- a new list becomes data -/
theorem frz_new {c c' : Bas} {S' : Sto} {ds : List D} {v : V} (st : Step c c') (ok : Sok K c' S') (h : NewAt K c c' ds v) :
    ∃ F', Step c ⟨F', c'.ι, c'.H⟩ ∧ Sok K ⟨F', c'.ι, c'.H⟩ S' ∧ Rp K F' c'.ι (.lst ds) v := by
  obtain ⟨a, vs, e, h1, h2, hl, h3, h4, h5⟩ := h
  have sm : Same c'.F (upd c'.F a (.lst vs)) := fun b o q => by
    rw [upd_ne (ne_of_none q h4)]
    exact q
  refine ⟨upd c'.F a (.lst vs), ⟨st.same.trans sm, fun b o q => ?_, st.fr, st.dom, st.pre, st.new, st.tab⟩, ⟨fun b o q => ?_, ok.nd, ok.len, fun b hb => ?_, fun n b es h6 h7 => ?_, nt_upd ok.nt (fun ps z => by cases z)⟩, ⟨a, vs, e, SqL.of upd_same, hl, RpAll.mono sm List.prefix_rfl _ _ h3⟩⟩
  · by_cases hb : b = a
    · subst hb; exact .inr h1
    · have q' : c'.F b = some o := by
        have := q
        rw [show (Bas.mk (upd c'.F a (.lst vs)) c'.ι c'.H).F = upd c'.F a (.lst vs) from rfl, upd_ne hb] at this
        exact this
      exact st.grow b o q'
  · by_cases hb : b = a
    · subst hb
      have q' : upd c'.F b (.lst vs) b = some o := q
      rw [upd_same] at q'
      rw [← q']
      exact h2
    · have q' : upd c'.F a (.lst vs) b = some o := q
      rw [upd_ne hb] at q'
      exact ok.f b o q'
  · have hb' : b ≠ a := fun z => h5 (z ▸ hb)
    show upd c'.F a (.lst vs) b = none
    rw [upd_ne hb']
    exact ok.fi b hb
  · obtain ⟨ws, g1, g2, g3⟩ := ok.s n b es h6 h7
    exact ⟨ws, g1, g2, RpAll.mono sm List.prefix_rfl _ _ g3⟩
def eLst (f : EL) : EE := fun env S => (f env S).bind fun ds S => .ok (.lst ds) S
theorem n_d {e : Expr} {f : EL} (h : PE X e (tN K B f)) : PE X e (tD K B (eLst f)) := h.imp fun σ H Q ⟨F, ι, S, env, st, e⟩ => by
  refine ⟨F, ι, S, env, st, Post.bind_imp e fun ds S1 e v c' s o n => ?_⟩
  obtain ⟨F', s', o', r⟩ := frz_new s o n
  exact e v ⟨F', c'.ι, c'.H⟩ s' o' r

/-! ### names, constants -/
def eC (d : D) : EE := fun _ S => .ok d S
theorem _root_.L2.PE.const {e : Expr} {d : D} {v : V} (h : PE X e (tC v)) (r : ∀ F ι, Rp K F ι d v) : PE X e (tD K B (eC d)) := h.imp fun σ H Q ⟨F, ι, S, env, st, e⟩ => by
  exact e v _ (Step.refl _) st.ok (r _ _)
theorem d_int {i j pos} : PE X (.Constant (.int i) j pos) (tD K B (eC (.int i))) := PE.const pe_int fun _ _ => rfl
theorem d_bl {b j pos} : PE X (.Constant (.bool b) j pos) (tD K B (eC (.bl b))) := PE.const pe_bl fun _ _ => rfl
theorem d_non {j pos} : PE X (.Constant .none j pos) (tD K B (eC .non)) := PE.const pe_non fun _ _ => rfl
theorem d_str {x j pos} : PE X (.Constant (.str x) j pos) (tD K B (eC (.str x))) := PE.const pe_str fun _ _ => rfl
def eV (i : Nat) : EE := fun env S => match env[i]? with
  | some (some (.sh d)) => .ok d S
  | _ => .stuck
def eVb (i : Nat) : EE := fun env S => match env[i]? with
  | some (some (.sh d)) => .ok d S
  | some (some (.own ds)) => .ok (.lst ds) S
  | _ => .stuck
theorem d_var {e : Expr} {i : Nat} (h : PE X e (tVar i)) : PE X e (tD K B (eV i)) := h.imp fun σ H Q ⟨F, ι, S, env, st, e⟩ => by
  unfold eV at e
  split at e
  · rename_i d' h1
    obtain ⟨v, h2, h3⟩ := st.env.at_ i _ h1
    exact ⟨v, h2, e v _ (Step.refl _) st.ok h3⟩
  · cases e
theorem b_var {e : Expr} {i : Nat} (h : PE X e (tVar i)) : PE X e (tB K B (eVb i)) := h.imp fun σ H Q ⟨F, ι, S, env, st, e⟩ => by
  unfold eVb at e
  split at e
  · rename_i d' h1
    obtain ⟨v, h2, h3⟩ := st.env.at_ i _ h1
    exact ⟨v, h2, e v _ (Step.refl _) st.ok (.inl h3)⟩
  · rename_i d' h1
    obtain ⟨v, h2, h3⟩ := st.env.at_ i _ h1
    exact ⟨v, h2, e v _ (Step.refl _) st.ok (.inr ⟨_, rfl, h3⟩)⟩
  · cases e
end
end DL

/-! E2: operators, comparisons, tests, arguments, displays, subscripts. -/
namespace DL
open PySem PySem.Spec PyProof.Rows L2

/-! ### data without things that change, as the library's data -/
mutual
def toPy : D → PyData
  | .non => .none
  | .bl b => .bool b
  | .int i => .int i
  | .str x => .str x
  | .lst xs => .list (toPyAll xs)
  | .tup xs => .tuple (toPyAll xs)
  | .mu _ => .none
  | .dct _ _ => .none
  | .ty _ => .none
  | .exn _ _ _ => .none
  | .obj _ _ _ => .none
def toPyAll : List D → List PyData
  | [] => []
  | d :: ds => toPy d :: toPyAll ds
end
mutual
def pl : D → Bool
  | .non => true
  | .bl _ => true
  | .int _ => true
  | .str _ => true
  | .lst xs => plAll xs
  | .tup xs => plAll xs
  | .mu _ => false
  | .dct _ _ => false
  | .ty _ => false
  | .exn _ _ _ => false
  | .obj _ _ _ => false
def plAll : List D → Bool
  | [] => true
  | d :: ds => pl d && plAll ds
end
mutual
theorem plain_toPy : ∀ d : D, (toPy d).plain = true
  | .non => rfl
  | .bl _ => rfl
  | .int _ => rfl
  | .str _ => rfl
  | .lst xs => by show PyData.plainAll (toPyAll xs) = true; exact plain_toPyAll xs
  | .tup xs => by show PyData.plainAll (toPyAll xs) = true; exact plain_toPyAll xs
  | .mu _ => rfl
  | .dct _ _ => rfl
  | .ty _ => rfl
  | .exn _ _ _ => rfl
  | .obj _ _ _ => rfl
theorem plain_toPyAll : ∀ ds : List D, PyData.plainAll (toPyAll ds) = true
  | [] => rfl
  | d :: ds => by
    show (PyData.plain (toPy d) && PyData.plainAll (toPyAll ds)) = true
    rw [plain_toPy d, plain_toPyAll ds] <;> rfl
end
section
variable {K : Kt} {F H : Hp} {ι : List Addr}
mutual
theorem Rp.dp (e : Same F H) : ∀ (d : D) (v : V), pl d = true → Rp K F ι d v → Dp K H v (toPy d)
  | .non, _, _, h => by cases (show _ = V.non from h); exact .non
  | .bl _, _, _, h => by cases (show _ = V.bl _ from h); exact .bl _
  | .int _, _, _, h => by cases (show _ = V.int _ from h); exact .int _
  | .str _, _, _, h => by cases (show _ = V.str _ from h); exact .str _
  | .lst xs, _, hp, ⟨a, vs, h1, h2, _, h3⟩ => by subst h1; exact .lst (e.seq h2) (RpAll.dp e xs vs hp h3)
  | .tup xs, _, hp, ⟨a, vs, h1, h2, _, h3⟩ => by subst h1; exact .tup (same_t e h2) (RpAll.dp e xs vs hp h3)
  | .mu _, _, hp, _ => by cases hp
  | .dct _ _, _, hp, _ => by cases hp
  | .exn _ _ _, _, hp, _ => by cases hp
  | .obj _ _ _, _, hp, _ => by cases hp
  | .ty _, _, hp, _ => by cases hp
theorem RpAll.dp (e : Same F H) : ∀ (ds : List D) (vs : List V), plAll ds = true → RpAll K F ι ds vs → DpAll K H vs (toPyAll ds)
  | [], _, _, h => by cases (show _ = [] from h); exact .nil
  | d :: ds, _, hp, ⟨v, r, h1, h2, h3⟩ => by
    have hp' : (pl d && plAll ds) = true := hp
    rw [Bool.and_eq_true] at hp'
    subst h1
    exact .cons (Rp.dp e d v hp'.1 h2) (RpAll.dp e ds r hp'.2 h3)
end
end
section
variable {K : Kt} {B : Hp} {c : Bas} {S : Sto}
theorem Rb.dp {d : D} {v : V} (ok : Sok K c S) (h : Rb K B c d v) (hp : pl d = true) : Dp K c.H v (toPy d) := by
  rcases h with h | ⟨ds, e, a, vs, e2, h1, _, h2, _⟩
  · exact Rp.dp ok.f d v hp h
  · subst e e2
    exact .lst (SqL.of h1) (RpAll.dp ok.f ds vs hp h2)
/-- an operand that is a list, a tuple -/
theorem Rb.lst {ds : List D} {v : V} (ok : Sok K c S) (h : Rb K B c (.lst ds) v) : ∃ a vs, v = .ref a ∧ SqL K c.H a vs ∧ vs.length ≤ sizeLine ∧ RpAll K c.F c.ι ds vs := by
  rcases h with ⟨a, vs, h1, h2, hl, h3⟩ | ⟨es, e, a, vs, e2, h1, hl, h2, _⟩
  · exact ⟨a, vs, h1, ok.f.seq h2, hl, h3⟩
  · cases e
    exact ⟨a, vs, e2, SqL.of h1, hl, h2⟩
theorem Rb.tup {ds : List D} {v : V} (ok : Sok K c S) (h : Rb K B c (.tup ds) v) : ∃ a vs, v = .ref a ∧ SqT K c.H a vs ∧ vs.length ≤ sizeLine ∧ RpAll K c.F c.ι ds vs := by
  rcases h with ⟨a, vs, h1, h2, hl, h3⟩ | ⟨es, e, _⟩
  · exact ⟨a, vs, h1, same_t ok.f h2, hl, h3⟩
  · cases e
theorem Rb.mu {n : Nat} {ds : List D} {v : V} (ok : Sok K c S) (h : Rb K B c (.mu n) v) (hs : S[n]? = some ds) : ∃ a vs, v = .ref a ∧ c.ι[n]? = some a ∧ c.H a = some (.lst vs) ∧ vs.length ≤ sizeLine ∧ RpAll K c.F c.ι ds vs := by
  rcases h with ⟨a, h1, h2⟩ | ⟨es, e, _⟩
  · obtain ⟨vs, g1, g2, g3⟩ := ok.s n a ds h2 hs
    exact ⟨a, vs, h1, h2, g1, g2, g3⟩
  · cases e
theorem Rb.int {i : Int} {v : V} (h : Rb K B c (.int i) v) : v = .int i := by
  rcases h with h | ⟨es, e, _⟩
  · exact h
  · cases e
theorem Rb.bl {i : Bool} {v : V} (h : Rb K B c (.bl i) v) : v = .bl i := by
  rcases h with h | ⟨es, e, _⟩
  · exact h
  · cases e
theorem Rb.str {i : Str} {v : V} (h : Rb K B c (.str i) v) : v = .str i := by
  rcases h with h | ⟨es, e, _⟩
  · exact h
  · cases e
theorem Rb.non {v : V} (h : Rb K B c .non v) : v = .non := by
  rcases h with h | ⟨es, e, _⟩
  · exact h
  · cases e
end

/-! ### operations on values -/
abbrev Op2 := D → D → Sto → Res D
def OpD (K : Kt) (r : R2) (op : Op2) : Prop := ∀ (B : Hp) (c : Bas) (S S' : Sto) (x y : V) (dx dy d : D), Sok K c S → Rb K B c dx x → Rb K B c dy y → op dx dy S = .ok d S' →
  ∀ Q : VK, (∀ v c', Step c c' → Sok K c' S' → Rp K c'.F c'.ι d v → Q v c'.H) → r x y c.H Q
def eBin (op : Op2) (f g : EE) : EE := fun env S => (f env S).bind fun x S => (g env S).bind fun y S => (op x y S).noex
/-- ints in, a datum out -/
def oI (p : Int → Int → Option D) : Op2 := fun x y S => match x, y with
  | .int i, .int j => (match p i j with
    | some d => .ok d S
    | none => .stuck)
  | _, _ => .stuck
theorem oI_ok {p : Int → Int → Option D} {x y d : D} {S S' : Sto} (h : oI p x y S = .ok d S') : ∃ i j, x = .int i ∧ y = .int j ∧ p i j = some d ∧ S' = S := by
  unfold oI at h
  split at h
  · split at h
    · rename_i hp
      cases h
      exact ⟨_, _, rfl, rfl, hp, rfl⟩
    · cases h
  · cases h
section
variable {K : Kt}
theorem OpD.ints {C : Int → Int → Prop} {g : Int → Int → V} {p : Int → Int → Option D} (h : ∀ i j d, p i j = some d → C i j ∧ ∀ F ι, Rp K F ι d (g i j)) : OpD K (rI C g) (oI p) := by
  intro B c S S' x y dx dy d ok hx hy e Q q
  obtain ⟨i, j, rfl, rfl, hp, rfl⟩ := oI_ok e
  obtain ⟨h1, h2⟩ := h i j d hp
  exact ⟨i, j, hx.int, hy.int, h1, q _ c (Step.refl c) ok (h2 _ _)⟩
theorem OpD.ints0 {g : Int → Int → V} {p : Int → Int → D} (h : ∀ i j F ι, Rp K F ι (p i j) (g i j)) : OpD K (rI0 g) (oI fun i j => some (p i j)) := by
  intro B c S S' x y dx dy d ok hx hy e Q q
  obtain ⟨i, j, rfl, rfl, hp, rfl⟩ := oI_ok e
  cases hp
  exact ⟨i, j, hx.int, hy.int, q _ c (Step.refl c) ok (h _ _ _ _)⟩
def oAdd : Op2 := oI fun i j => some (.int (i + j))
def oSub : Op2 := oI fun i j => some (.int (i - j))
def oMul : Op2 := oI fun i j => if (-(2 ^ 64) < i ∧ i < 2 ^ 64) ∨ (-(2 ^ 64) < j ∧ j < 2 ^ 64) then some (.int (i * j)) else none
def oMod : Op2 := oI fun i j => if 0 < j then some (.int (i % j)) else none
def oFdiv : Op2 := oI fun i j => if 0 < j ∧ j < 1073741824 then some (.int (i / j)) else none
def oPow : Op2 := oI fun i j => if 0 ≤ j ∧ j ≤ 1000000 ∧ i.natAbs < 2 ^ 64 then some (.int (i ^ j.toNat)) else none
theorem od_add : OpD K (rI0 fun i j => .int (i + j)) oAdd := OpD.ints0 fun _ _ _ _ => rfl
theorem od_sub : OpD K (rI0 fun i j => .int (i - j)) oSub := OpD.ints0 fun _ _ _ _ => rfl
theorem od_mul : OpD K (rI CMul fun i j => .int (i * j)) oMul := OpD.ints fun i j d h => by
  split at h
  · rename_i hc
    cases h
    exact ⟨hc, fun _ _ => rfl⟩
  · cases h
theorem od_mod : OpD K (rI (fun _ j => 0 < j) fun i j => .int (i % j)) oMod := OpD.ints fun i j d h => by
  split at h
  · rename_i hc
    cases h
    exact ⟨hc, fun _ _ => rfl⟩
  · cases h
theorem od_fdiv : OpD K (rI CDiv fun i j => .int (i / j)) oFdiv := OpD.ints fun i j d h => by
  split at h
  · rename_i hc
    cases h
    exact ⟨hc, fun _ _ => rfl⟩
  · cases h
theorem od_pow : OpD K (rI CPow fun i j => .int (i ^ j.toNat)) oPow := OpD.ints fun i j d h => by
  split at h
  · rename_i hc
    cases h
    exact ⟨hc, fun _ _ => rfl⟩
  · cases h
/-! comparisons -/
def oC (p : Int → Int → Bool) : Op2 := oI fun i j => some (.bl (p i j))
theorem od_cmp {p : Int → Int → Bool} : OpD K (rI0 fun i j => .bl (p i j)) (oC p) := OpD.ints0 fun _ _ _ _ => rfl
abbrev oLt : Op2 := oC fun i j => decide (i < j)
abbrev oLe : Op2 := oC fun i j => decide (i ≤ j)
abbrev oGt : Op2 := oC fun i j => decide (j < i)
abbrev oGe : Op2 := oC fun i j => decide (j ≤ i)
/-- data that == may compare -/
def okD (x : D) : Bool := pl x && decide ((toPy x).depth ≤ 40)
def eqD (x y : D) : Bool := PyData.eqv (toPy x) (toPy y)
def oEq : Op2 := fun x y S => if okD x = true ∧ okD y = true then .ok (.bl (eqD x y)) S else .stuck
def oNe : Op2 := fun x y S => if okD x = true ∧ okD y = true then .ok (.bl (!eqD x y)) S else .stuck
def rEqP (K : Kt) : R2 := fun x y H Q => ∃ d e, Dp K H x d ∧ Dp K H y e ∧ d.plain = true ∧ e.plain = true ∧ d.depth ≤ 40 ∧ Q (.bl (PyData.eqv d e)) H
def rNeP (K : Kt) : R2 := fun x y H Q => ∃ d e, Dp K H x d ∧ Dp K H y e ∧ d.plain = true ∧ e.plain = true ∧ d.depth ≤ 40 ∧ Q (.bl (!PyData.eqv d e)) H
theorem op_eqP {X : Cx} (hu : X.A.units + 64 < cLine) : OpR X (compareOp .Eq) (rEqP (kt X)) := by
  intro pins s σ H x y v u Q I rx ry h
  obtain ⟨d, e, hd, he, sd, se, hz, q⟩ := h
  obtain ⟨as, r1⟩ := Dp.reads I d x v hd rx
  obtain ⟨bs, r2⟩ := Dp.reads I e y u he ry
  have := Nat.min_le_left d.depth e.depth
  exact SeqAt.eq_plain r1 r2 sd se (by omega) ⟨.bl _, H, I, rfl, q⟩
theorem op_neP {X : Cx} (hu : X.A.units + 64 < cLine) : OpR X (compareOp .NotEq) (rNeP (kt X)) := by
  intro pins s σ H x y v u Q I rx ry h
  obtain ⟨d, e, hd, he, sd, se, hz, q⟩ := h
  obtain ⟨as, r1⟩ := Dp.reads I d x v hd rx
  obtain ⟨bs, r2⟩ := Dp.reads I e y u he ry
  have := Nat.min_le_left d.depth e.depth
  exact SeqAt.ne_plain r1 r2 sd se (by omega) ⟨.bl _, H, I, rfl, q⟩
theorem okD_iff {x : D} (h : okD x = true) : pl x = true ∧ (toPy x).depth ≤ 40 := by
  have h' : (pl x && decide ((toPy x).depth ≤ 40)) = true := h
  rw [Bool.and_eq_true, decide_eq_true_eq] at h'
  exact h'
theorem od_eq : OpD K (rEqP K) oEq := by
  intro B c S S' x y dx dy d ok hx hy e Q q
  unfold oEq at e
  split at e
  · rename_i hc
    cases e
    obtain ⟨h1, h2⟩ := okD_iff hc.1
    obtain ⟨h3, _⟩ := okD_iff hc.2
    exact ⟨_, _, hx.dp ok h1, hy.dp ok h3, plain_toPy _, plain_toPy _, h2, q _ c (Step.refl c) ok rfl⟩
  · cases e
theorem od_ne : OpD K (rNeP K) oNe := by
  intro B c S S' x y dx dy d ok hx hy e Q q
  unfold oNe at e
  split at e
  · rename_i hc
    cases e
    obtain ⟨h1, h2⟩ := okD_iff hc.1
    obtain ⟨h3, _⟩ := okD_iff hc.2
    exact ⟨_, _, hx.dp ok h1, hy.dp ok h3, plain_toPy _, plain_toPy _, h2, q _ c (Step.refl c) ok rfl⟩
  · cases e
/-- is None -/
def isNon : D → Bool
  | .non => true
  | _ => false
def oIs : Op2 := fun x y S => match y with
  | .non => .ok (.bl (isNon x)) S
  | _ => .stuck
def oIsNot : Op2 := fun x y S => match y with
  | .non => .ok (.bl (!isNon x)) S
  | _ => .stuck
theorem isNon_v {B : Hp} {c : Bas} {d : D} {v : V} (h : Rb K B c d v) : decide (v = V.non) = isNon d := by
  rcases h with h | ⟨ds, e, a, vs, e2, _⟩
  · cases d with
    | non => cases (show v = V.non from h); rfl
    | bl b => cases (show v = V.bl b from h); rfl
    | int b => cases (show v = V.int b from h); rfl
    | str b => cases (show v = V.str b from h); rfl
    | ty b => cases (show v = V.ty b from h); rfl
    | lst xs => obtain ⟨a, vs, h1, _⟩ := h; cases h1; rfl
    | tup xs => obtain ⟨a, vs, h1, _⟩ := h; cases h1; rfl
    | mu n => obtain ⟨a, h1, _⟩ := h; cases h1; rfl
    | dct ks xs => obtain ⟨a, vs, h1, _⟩ := h; cases h1; rfl
    | exn c ns xs => obtain ⟨a, C, dx, vs, h1, _⟩ := h; cases h1; rfl
    | obj c ns xs => obtain ⟨a, C, dx, vs, h1, _⟩ := h; cases h1; rfl
  · subst e e2; rfl
theorem od_is : OpD K (fun x y H Q => y = .non ∧ Q (.bl (decide (x = .non))) H) oIs := by
  intro B c S S' x y dx dy d ok hx hy e Q q
  unfold oIs at e
  split at e
  · cases e
    refine ⟨hy.non, ?_⟩
    rw [isNon_v hx]
    exact q _ c (Step.refl c) ok rfl
  · cases e
theorem od_isnot : OpD K (fun x y H Q => y = .non ∧ Q (.bl (!decide (x = .non))) H) oIsNot := by
  intro B c S S' x y dx dy d ok hx hy e Q q
  unfold oIsNot at e
  split at e
  · cases e
    refine ⟨hy.non, ?_⟩
    rw [isNon_v hx]
    exact q _ c (Step.refl c) ok rfl
  · cases e
/-! subscripts -/
def oIx : Op2 := fun x y S => match x, y with
  | .lst ds, .int i => (match atI ds i with
    | some d => .ok d S
    | none => .stuck)
  | .tup ds, .int i => (match atI ds i with
    | some d => .ok d S
    | none => .stuck)
  | .mu n, .int i => (match (S[n]?).bind fun ds => atI ds i with
    | some d => .ok d S
    | none => .stuck)
  | _, _ => .stuck
theorem RpAll.atI {F : Hp} {ι : List Addr} {ds : List D} {vs : List V} (h : RpAll K F ι ds vs) {i : Int} {d : D} (e : atI ds i = some d) : ∃ v, L2.atI vs i = some v ∧ Rp K F ι d v := by
  unfold L2.atI at e ⊢
  rw [h.len]
  cases q : ixN ds.length i with
  | none => rw [q] at e; cases e
  | some j =>
    rw [q] at e
    exact h.get e
theorem od_ix : OpD K (rIx K) oIx := by
  intro B c S S' x y dx dy d ok hx hy e Q q
  unfold oIx at e
  split at e
  · split at e
    · rename_i ds i _ d' hd
      cases e
      obtain ⟨a, vs, e1, h1, _, h2⟩ := hx.lst ok
      obtain ⟨v, h3, h4⟩ := h2.atI hd
      exact .inl ⟨a, vs, i, v, e1, hy.int, h1, h3, q _ c (Step.refl c) ok h4⟩
    · cases e
  · split at e
    · rename_i ds i _ d' hd
      cases e
      obtain ⟨a, vs, e1, h1, _, h2⟩ := hx.tup ok
      obtain ⟨v, h3, h4⟩ := h2.atI hd
      exact .inr (.inl ⟨a, vs, i, v, e1, hy.int, h1, h3, q _ c (Step.refl c) ok h4⟩)
    · cases e
  · split at e
    · rename_i n i _ d' hd
      cases e
      obtain ⟨ds, g1, g2⟩ := Option.bind_eq_some_iff.mp hd
      obtain ⟨a, vs, e1, _, h1, _, h2⟩ := hx.mu ok g1
      obtain ⟨v, h3, h4⟩ := h2.atI g2
      exact .inl ⟨a, vs, i, v, e1, hy.int, SqL.of h1, h3, q _ c (Step.refl c) ok h4⟩
    · cases e
  · cases e
end

/-! ### the rules -/
section
variable {X : Cx} {K : Kt} {B : Bg} {a b e : Expr} {es : List Expr} {f g h : EE} {pos : Pos}
theorem bin_of {r : R2} {o : Op2} (od : OpD K r o) {σ : St} {H : Hp} {Q : VK} (q : tD K B (eBin o f g) σ H Q) : tOp r (tB K B f) (tB K B g) σ H Q := by
  obtain ⟨F, ι, S, env, st, e⟩ := q
  refine ⟨F, ι, S, env, st, Post.bind_imp e fun x S1 e v1 c1 s1 o1 r1 => ?_⟩
  refine ⟨c1.F, c1.ι, S1, env, st.step s1 o1, Post.bind_imp e fun y S2 e v2 c2 s2 o2 r2 => ?_⟩
  obtain ⟨d, S', e, q⟩ := Post.noex e
  exact od B.H c2 S2 S' v1 v2 x y d o2 (r1.step s2) r2 e Q fun v c' s o r => q v c' ((s1.trans s2).trans s) o r
theorem d_bin {op : Operator} {r : R2} {o : Op2} (ho : OpR X (binaryOp op) r) (od : OpD K r o) (ha : PE X a (tB K B f)) (hb : PE X b (tB K B g)) : PE X (.BinOp a op b pos) (tD K B (eBin o f g)) :=
  (pe_op ho ha hb).imp fun _ _ _ q => bin_of od q
theorem d_cmp {op : CmpOp} {r : R2} {o : Op2} (ho : OpR X (compareOp op) r) (od : OpD K r o) (ha : PE X a (tB K B f)) (hb : PE X b (tB K B g)) (hm : behindInMarks op b = false) : PE X (.Compare a [op] [b] pos) (tD K B (eBin o f g)) :=
  (pe_cmpR ho ha hb hm).imp fun _ _ _ q => bin_of od q
theorem d_ix (ha : PE X a (tB K B f)) (hb : PE X b (tB K B g)) (hs : PlainIx b) (hK : kt X = K) : PE X (.Subscript a b pos) (tD K B (eBin oIx f g)) := by
  subst hK
  exact (pe_ix ix_seq ha hb hs).imp fun _ _ _ q => bin_of od_ix q
/-- a unary minus -/
def eNeg (f : EE) : EE := fun env S => (f env S).bind fun x S => match x with
  | .int i => .ok (.int (-i)) S
  | _ => .stuck
theorem d_neg (ha : PE X a (tB K B f)) : PE X (.UnaryOp .USub a pos) (tD K B (eNeg f)) := (pe_un un_neg ha).imp fun σ H Q ⟨F, ι, S, env, st, e⟩ => by
  refine ⟨F, ι, S, env, st, Post.bind_imp e fun x S1 e v1 c1 s1 o1 r1 => ?_⟩
  obtain ⟨d, S', e, q⟩ := Post.nr e (by intro x0 S0 z; first | (cases z; done) | (split at z <;> first | (cases z; done) | (split at z <;> first | (cases z; done) | (split at z <;> first | (cases z; done) | (split at z <;> cases z)))))
  split at e
  · cases e
    exact ⟨_, r1.int, q _ c1 s1 o1 rfl⟩
  · cases e
/-! tests -/
def eTst (f : EE) : ET := fun env S => (f env S).bind fun x S => match x with
  | .bl b => .ok b S
  | _ => .stuck
theorem tst_of {t : TE} {σ : St} {H : Hp} {Q : Bool → Hp → Prop} (i : ∀ σ H Q, tD K B f σ H Q → t σ H Q) (q : tT K B (eTst f) σ H Q) : t σ H fun x H1 => ∃ k, x = .bl k ∧ Q k H1 := by
  obtain ⟨F, ι, S, env, st, e⟩ := q
  refine i σ H _ ⟨F, ι, S, env, st, Post.bind_imp e fun x S1 e v1 c1 s1 o1 r1 => ?_⟩
  obtain ⟨d, S', e, q⟩ := Post.nr e (by intro x0 S0 z; first | (cases z; done) | (split at z <;> first | (cases z; done) | (split at z <;> first | (cases z; done) | (split at z <;> first | (cases z; done) | (split at z <;> cases z)))))
  split at e
  · cases e
    exact ⟨_, r1, q c1 s1 o1⟩
  · cases e
theorem t_cmp {op : CmpOp} {r : R2} {o : Op2} (ho : OpR X (compareOp op) r) (od : OpD K r o) (ha : PE X a (tB K B f)) (hb : PE X b (tB K B g)) (hm : behindInMarks op b = false) : PT X (.Compare a [op] [b] pos) (tT K B (eTst (eBin o f g))) :=
  (pt_cmpR ho ha hb hm).imp fun _ _ _ q => tst_of (fun _ _ _ q => bin_of od q) q
theorem t_val (h : PE X e (tD K B f)) (he : ∀ whole, isTrue e X.env whole = (do let v ← whole; standAt e.pos; holding [v] (truthy v)) := by intro _; rfl) : PT X e (tT K B (eTst f)) :=
  (pt_val h he).imp fun _ _ _ q => tst_of (fun _ _ _ q => q) q
/-- a value's truth -/
def truD (S : Sto) : D → Option Bool
  | .non => some false
  | .bl b => some b
  | .int i => some (i != 0)
  | .lst ds => some (!ds.isEmpty)
  | .tup ds => some (!ds.isEmpty)
  | .mu n => (S[n]?).map fun ds => !ds.isEmpty
  | _ => none
def eTru (f : EE) : ET := fun env S => (f env S).bind fun x S => match truD S x with
  | some b => .ok b S
  | none => .stuck
theorem RpAll.empty {F : Hp} {ι : List Addr} {ds : List D} {vs : List V} (h : RpAll K F ι ds vs) : (!vs.isEmpty) = !ds.isEmpty := by
  have e := h.len
  cases ds <;> cases vs <;> simp_all
theorem t_tru (h : PE X e (tB K B f)) (hK : kt X = K) (he : ∀ whole, isTrue e X.env whole = (do let v ← whole; standAt e.pos; holding [v] (truthy v)) := by intro _; rfl) : PT X e (tT K B (eTru f)) := by
  subst hK
  refine (pt_truth h he).imp fun σ H Q ⟨F, ι, S, env, st, e⟩ => ?_
  refine ⟨F, ι, S, env, st, Post.bind_imp e fun x S1 e v1 c1 s1 o1 r1 => ?_⟩
  obtain ⟨d, S', e, q⟩ := Post.nr e (by intro x0 S0 z; first | (cases z; done) | (split at z <;> first | (cases z; done) | (split at z <;> first | (cases z; done) | (split at z <;> first | (cases z; done) | (split at z <;> cases z)))))
  split at e
  · rename_i k hk
    cases e
    refine ⟨_, ?_, q c1 s1 o1⟩
    cases x with
    | non => cases r1.non; cases hk; rfl
    | bl b => cases r1.bl; cases hk; rfl
    | int b => cases r1.int; cases hk; rfl
    | lst ds =>
      obtain ⟨p, vs, e1, h1, _, h2⟩ := r1.lst o1
      subst e1
      cases hk
      exact .inl ⟨vs, h1, h2.empty.symm⟩
    | tup ds =>
      obtain ⟨p, vs, e1, h1, _, h2⟩ := r1.tup o1
      subst e1
      cases hk
      exact .inr (.inl ⟨vs, h1, h2.empty.symm⟩)
    | mu n =>
      obtain ⟨ds, g1, g2⟩ := Option.map_eq_some_iff.mp hk
      obtain ⟨p, vs, e1, _, h1, _, h2⟩ := r1.mu o1 g1
      subst e1
      exact .inl ⟨vs, SqL.of h1, by rw [← g2]; exact h2.empty.symm⟩
    | str x => cases hk
    | ty x => cases hk
    | dct ks xs => cases hk
    | exn c ns xs => cases hk
    | obj c ns xs => cases hk
  · cases e
def eAndT (f g : ET) : ET := fun env S => (f env S).bind fun b S => if b = true then g env S else .ok false S
def eOrT (f g : ET) : ET := fun env S => (f env S).bind fun b S => if b = true then .ok true S else g env S
def eNotT (f : ET) : ET := fun env S => (f env S).bind fun b S => .ok (!b) S
variable {p q : ET} {rest : List Expr}
theorem t_not (ha : PT X a (tT K B p)) : PT X (.UnaryOp .Not a pos) (tT K B (eNotT p)) := (pt_not ha).imp fun σ H Q ⟨F, ι, S, env, st, e⟩ => by
  exact ⟨F, ι, S, env, st, Post.bind_imp e fun x S1 e c1 s1 o1 => e c1 s1 o1⟩
theorem w_and1 (ha : PT X a (tT K B p)) : PW X (.BoolOp .And [a] pos) (tT K B p) := pw_and1 ha
theorem w_or1 (ha : PT X a (tT K B p)) : PW X (.BoolOp .Or [a] pos) (tT K B p) := pw_or1 ha
theorem w_and (ha : PT X a (tT K B p)) (hb : PW X (.BoolOp .And (b :: rest) pos) (tT K B q)) : PW X (.BoolOp .And (a :: b :: rest) pos) (tT K B (eAndT p q)) := (pw_and ha hb).imp fun σ H Q ⟨F, ι, S, env, st, e⟩ => by
  refine ⟨F, ι, S, env, st, Post.bind_imp e fun x S1 e c1 s1 o1 => ?_⟩
  cases x with
  | true => exact iteT ⟨c1.F, c1.ι, S1, env, st.step s1 o1, e.imp fun d S' k c2 s2 o2 => k c2 (s1.trans s2) o2⟩
  | false => exact iteF (e c1 s1 o1)
theorem w_or (ha : PT X a (tT K B p)) (hb : PW X (.BoolOp .Or (b :: rest) pos) (tT K B q)) : PW X (.BoolOp .Or (a :: b :: rest) pos) (tT K B (eOrT p q)) := (pw_or ha hb).imp fun σ H Q ⟨F, ι, S, env, st, e⟩ => by
  refine ⟨F, ι, S, env, st, Post.bind_imp e fun x S1 e c1 s1 o1 => ?_⟩
  cases x with
  | true => exact iteT (e c1 s1 o1)
  | false => exact iteF ⟨c1.F, c1.ι, S1, env, st.step s1 o1, e.imp fun d S' k c2 s2 o2 => k c2 (s1.trans s2) o2⟩
/-! and, or, not as values of truth values -/
def eAnd (f g : EE) : EE := fun env S => (f env S).bind fun x S => match x with
  | .bl true => g env S
  | .bl false => .ok (.bl false) S
  | _ => .stuck
def eOr (f g : EE) : EE := fun env S => (f env S).bind fun x S => match x with
  | .bl true => .ok (.bl true) S
  | .bl false => g env S
  | _ => .stuck
def eNot (f : EE) : EE := fun env S => (f env S).bind fun x S => match x with
  | .bl b => .ok (.bl (!b)) S
  | _ => .stuck
theorem d_one {op} (ha : PE X a (tD K B f)) : PE X (.BoolOp op [a] pos) (tD K B f) := pe_one ha
theorem d_and (ha : PE X a (tD K B f)) (hb : PE X (.BoolOp .And (b :: rest) pos) (tD K B g)) : PE X (.BoolOp .And (a :: b :: rest) pos) (tD K B (eAnd f g)) := (pe_and ha hb).imp fun σ H Q ⟨F, ι, S, env, st, e⟩ => by
  refine ⟨F, ι, S, env, st, Post.bind_imp e fun x S1 e v1 c1 s1 o1 r1 => ?_⟩
  split at e
  · exact ⟨true, r1, iteT ⟨c1.F, c1.ι, S1, env, st.step s1 o1, e.imp fun d S' k v2 c2 s2 o2 r2 => k v2 c2 (s1.trans s2) o2 r2⟩⟩
  · exact ⟨false, r1, iteF (e _ c1 s1 o1 rfl)⟩
  · cases e
theorem d_or (ha : PE X a (tD K B f)) (hb : PE X (.BoolOp .Or (b :: rest) pos) (tD K B g)) : PE X (.BoolOp .Or (a :: b :: rest) pos) (tD K B (eOr f g)) := (pe_or ha hb).imp fun σ H Q ⟨F, ι, S, env, st, e⟩ => by
  refine ⟨F, ι, S, env, st, Post.bind_imp e fun x S1 e v1 c1 s1 o1 r1 => ?_⟩
  split at e
  · exact ⟨true, r1, iteT (e _ c1 s1 o1 rfl)⟩
  · exact ⟨false, r1, iteF ⟨c1.F, c1.ι, S1, env, st.step s1 o1, e.imp fun d S' k v2 c2 s2 o2 r2 => k v2 c2 (s1.trans s2) o2 r2⟩⟩
  · cases e
theorem d_not (ha : PE X a (tD K B f)) : PE X (.UnaryOp .Not a pos) (tD K B (eNot f)) := (pe_not ha).imp fun σ H Q ⟨F, ι, S, env, st, e⟩ => by
  refine ⟨F, ι, S, env, st, Post.bind_imp e fun x S1 e v1 c1 s1 o1 r1 => ?_⟩
  obtain ⟨d, S', e, k⟩ := Post.nr e (by intro x0 S0 z; first | (cases z; done) | (split at z <;> first | (cases z; done) | (split at z <;> first | (cases z; done) | (split at z <;> first | (cases z; done) | (split at z <;> cases z)))))
  split at e
  · cases e
    exact ⟨_, r1, k _ c1 s1 o1 rfl⟩
  · cases e
def eIf (p : ET) (f g : EE) : EE := fun env S => (p env S).bind fun b S => if b = true then f env S else g env S
theorem d_if {c : Expr} (hc : PT X c (tT K B p)) (ha : PE X a (tD K B f)) (hb : PE X b (tD K B g)) : PE X (.IfExp c a b pos) (tD K B (eIf p f g)) := (pe_ifExp hc ha hb).imp fun σ H Q ⟨F, ι, S, env, st, e⟩ => by
  refine ⟨F, ι, S, env, st, Post.bind_imp e fun x S1 e c1 s1 o1 => ?_⟩
  cases x with
  | true => exact iteT ⟨c1.F, c1.ι, S1, env, st.step s1 o1, e.imp fun d S' k v2 c2 s2 o2 r2 => k v2 c2 (s1.trans s2) o2 r2⟩
  | false => exact iteF ⟨c1.F, c1.ι, S1, env, st.step s1 o1, e.imp fun d S' k v2 c2 s2 o2 r2 => k v2 c2 (s1.trans s2) o2 r2⟩
/-- a < b < c -/
def eChain (o o' : Op2) (f g h : EE) : EE := fun env S => (f env S).bind fun x S => (g env S).bind fun y S => (o x y S).noex.bind fun k S => match k with
  | .bl true => (h env S).bind fun z S => (o' y z S).noex
  | .bl false => .ok (.bl false) S
  | _ => .stuck
theorem d_chain {op op' : CmpOp} {r r' : R2} {o o' : Op2} {c : Expr} (ho : OpR X (compareOp op) r) (ho' : OpR X (compareOp op') r') (od : OpD K r o) (od' : OpD K r' o') (ha : PE X a (tB K B f)) (hb : PE X b (tB K B g)) (hc : PE X c (tB K B h)) (hm : lastMarks [op, op'] [b, c] = false := by with_unfolding_all rfl) :
    PE X (.Compare a [op, op'] [b, c] pos) (tD K B (eChain o o' f g h)) := (pe_chain ho ho' ha hb hc (hm := hm)).imp fun σ H Q ⟨F, ι, S, env, st, e⟩ => by
  refine ⟨F, ι, S, env, st, Post.bind_imp e fun x S1 e v1 c1 s1 o1 r1 => ?_⟩
  refine ⟨c1.F, c1.ι, S1, env, st.step s1 o1, Post.bind_imp e fun y S2 e v2 c2 s2 o2 r2 => ?_⟩
  obtain ⟨z, S3, e3, e⟩ := Post.noex_bind e
  refine od B.H c2 S2 S3 v1 v2 x y z o2 (r1.step s2) r2 e3 _ fun v3 c3 s3 o3 r3 => ?_
  split at e
  · refine ⟨true, r3, iteT ⟨c3.F, c3.ι, S3, env, st.step ((s1.trans s2).trans s3) o3, Post.bind_imp e fun z2 S4 e v4 c4 s4 o4 r4 => ?_⟩⟩
    obtain ⟨d, S', e, k⟩ := Post.noex e
    exact od' B.H c4 S4 S' v2 v4 y z2 d o4 ((r2.step s3).step s4) r4 e Q fun v5 c5 s5 o5 r5 => k v5 c5 ((((s1.trans s2).trans s3).trans s4).trans s5) o5 r5
  · exact ⟨false, r3, iteF (e _ c3 ((s1.trans s2).trans s3) o3 rfl)⟩
  · cases e
theorem t_chain {op op' : CmpOp} {r r' : R2} {o o' : Op2} {c : Expr} (ho : OpR X (compareOp op) r) (ho' : OpR X (compareOp op') r') (od : OpD K r o) (od' : OpD K r' o') (ha : PE X a (tB K B f)) (hb : PE X b (tB K B g)) (hc : PE X c (tB K B h)) (hm : lastMarks [op, op'] [b, c] = false := by with_unfolding_all rfl) :
    PT X (.Compare a [op, op'] [b, c] pos) (tT K B (eTst (eChain o o' f g h))) := (pt_chain ho ho' ha hb hc (hm := hm)).imp fun _ _ _ q => tst_of (t := tChain r r' (tB K B f) (tB K B g) (tB K B h)) (fun σ H Q ⟨F, ι, S, env, st, e⟩ => by
  refine ⟨F, ι, S, env, st, Post.bind_imp e fun x S1 e v1 c1 s1 o1 r1 => ?_⟩
  refine ⟨c1.F, c1.ι, S1, env, st.step s1 o1, Post.bind_imp e fun y S2 e v2 c2 s2 o2 r2 => ?_⟩
  obtain ⟨z, S3, e3, e⟩ := Post.noex_bind e
  refine od B.H c2 S2 S3 v1 v2 x y z o2 (r1.step s2) r2 e3 _ fun v3 c3 s3 o3 r3 => ?_
  split at e
  · refine ⟨true, r3, iteT ⟨c3.F, c3.ι, S3, env, st.step ((s1.trans s2).trans s3) o3, Post.bind_imp e fun z2 S4 e v4 c4 s4 o4 r4 => ?_⟩⟩
    obtain ⟨d, S', e, k⟩ := Post.noex e
    exact od' B.H c4 S4 S' v2 v4 y z2 d o4 ((r2.step s3).step s4) r4 e Q fun v5 c5 s5 o5 r5 => k v5 c5 ((((s1.trans s2).trans s3).trans s4).trans s5) o5 r5
  · exact ⟨false, r3, iteF (e _ c3 ((s1.trans s2).trans s3) o3 rfl)⟩
  · cases e) q

/-! ### arguments, displays -/
def eNil : EL := fun _ S => .ok [] S
def eCons (f : EE) (g : EL) : EL := fun env S => (f env S).bind fun x S => (g env S).bind fun xs S => .ok (x :: xs) S
theorem RbAll.step {c c' : Bas} (s : Step c c') : ∀ {ds : List D} {vs : List V}, RbAll K B.H c ds vs → RbAll K B.H c' ds vs
  | [], _, h => h
  | d :: ds, _, ⟨v, r, h1, h2, h3⟩ => ⟨v, r, h1, h2.step s, RbAll.step s h3⟩
theorem a_nil : PA X [] (tA K B eNil) := pa_nil.imp fun σ H Q ⟨F, ι, S, env, st, e⟩ => by
  obtain ⟨d, S', e, k⟩ := Post.nr e (by intro x0 S0 z; first | (cases z; done) | (split at z <;> first | (cases z; done) | (split at z <;> first | (cases z; done) | (split at z <;> first | (cases z; done) | (split at z <;> cases z)))))
  cases e
  exact k [] _ (Step.refl _) st.ok rfl
theorem ab_nil : PA X [] (tAB K B eNil) := pa_nil.imp fun σ H Q ⟨F, ι, S, env, st, e⟩ => by
  obtain ⟨d, S', e, k⟩ := Post.nr e (by intro x0 S0 z; first | (cases z; done) | (split at z <;> first | (cases z; done) | (split at z <;> first | (cases z; done) | (split at z <;> first | (cases z; done) | (split at z <;> cases z)))))
  cases e
  exact k [] _ (Step.refl _) st.ok rfl
variable {l : EL}
theorem a_cons (ha : PE X e (tD K B f)) (hr : PA X es (tA K B l)) (hs : starEach (e :: es) X.env = (false, eval e X.env) :: starEach es X.env := by rfl) : PA X (e :: es) (tA K B (eCons f l)) := (pa_cons ha hr hs).imp fun σ H Q ⟨F, ι, S, env, st, e⟩ => by
  refine ⟨F, ι, S, env, st, Post.bind_imp e fun x S1 e v1 c1 s1 o1 r1 => ?_⟩
  refine ⟨c1.F, c1.ι, S1, env, st.step s1 o1, Post.bind_imp e fun y S2 e v2 c2 s2 o2 r2 => ?_⟩
  exact e _ c2 (s1.trans s2) o2 ⟨v1, v2, rfl, s2.rp r1, r2⟩
theorem ab_cons (ha : PE X e (tB K B f)) (hr : PA X es (tAB K B l)) (hs : starEach (e :: es) X.env = (false, eval e X.env) :: starEach es X.env := by rfl) : PA X (e :: es) (tAB K B (eCons f l)) := (pa_cons ha hr hs).imp fun σ H Q ⟨F, ι, S, env, st, e⟩ => by
  refine ⟨F, ι, S, env, st, Post.bind_imp e fun x S1 e v1 c1 s1 o1 r1 => ?_⟩
  refine ⟨c1.F, c1.ι, S1, env, st.step s1 o1, Post.bind_imp e fun y S2 e v2 c2 s2 o2 r2 => ?_⟩
  exact e _ c2 (s1.trans s2) o2 ⟨v1, v2, rfl, r1.step s2, r2⟩
/-- a new list at p -/
theorem new_lst {c : Bas} {S : Sto} {p : Addr} {ds : List D} {vs : List V} (ok : Sok K c S) (hp : c.H p = none) (hl : vs.length ≤ sizeLine) (r : RpAll K c.F c.ι ds vs) :
    Step c ⟨c.F, c.ι, upd c.H p (.lst vs)⟩ ∧ Sok K ⟨c.F, c.ι, upd c.H p (.lst vs)⟩ S ∧ NewAt K c ⟨c.F, c.ι, upd c.H p (.lst vs)⟩ ds (.ref p) := by
  have hF : c.F p = none := by
    cases q : c.F p with
    | none => rfl
    | some o => rw [ok.f p o q] at hp; cases hp
  have hι : p ∉ c.ι := fun hm => by
    obtain ⟨n, hn, e⟩ := List.mem_iff_getElem.mp hm
    have hn' : n < S.length := by rw [← ok.len]; exact hn
    obtain ⟨ws, h1, _⟩ := ok.s n p S[n] (by rw [List.getElem?_eq_getElem hn, e]) (List.getElem?_eq_getElem hn')
    rw [hp] at h1; cases h1
  have kp : ∀ a o, c.H a = some o → upd c.H p (.lst vs) a = some o := fun a o e => by
    rw [upd_ne (ne_of_none e hp)]
    exact e
  refine ⟨⟨Same.refl _, fun _ _ h => .inl h, fun a o e _ _ => kp a o e, fun a n => ?_, List.prefix_rfl, fun _ h => .inl h, tab_all kp⟩, ⟨fun a o e => kp a o (ok.f a o e), ok.nd, ok.len, ok.fi, fun n a es h1 h2 => ?_, ok.nt⟩, ⟨p, vs, rfl, hp, upd_same, hl, r, hF, hι⟩⟩
  · cases q : c.H a with
    | none => exact absurd q n
    | some o =>
      show upd c.H p (.lst vs) a ≠ none
      rw [kp a o q]
      exact fun z => by cases z
  · obtain ⟨ws, g1, g2, g3⟩ := ok.s n a es h1 h2
    exact ⟨ws, kp _ _ g1, g2, g3⟩
/-- a new tuple at p, data at once -/
theorem new_tup {c : Bas} {S : Sto} {p : Addr} {ds : List D} {vs : List V} (ok : Sok K c S) (hp : c.H p = none) (hl : vs.length ≤ sizeLine) (r : RpAll K c.F c.ι ds vs) :
    Step c ⟨upd c.F p (.tup vs), c.ι, upd c.H p (.tup vs)⟩ ∧ Sok K ⟨upd c.F p (.tup vs), c.ι, upd c.H p (.tup vs)⟩ S ∧ Rp K (upd c.F p (.tup vs)) c.ι (.tup ds) (.ref p) := by
  have hF : c.F p = none := by
    cases q : c.F p with
    | none => rfl
    | some o => rw [ok.f p o q] at hp; cases hp
  have hι : p ∉ c.ι := fun hm => by
    obtain ⟨n, hn, e⟩ := List.mem_iff_getElem.mp hm
    have hn' : n < S.length := by rw [← ok.len]; exact hn
    obtain ⟨ws, h1, _⟩ := ok.s n p S[n] (by rw [List.getElem?_eq_getElem hn, e]) (List.getElem?_eq_getElem hn')
    rw [hp] at h1; cases h1
  have kp : ∀ a o, c.H a = some o → upd c.H p (.tup vs) a = some o := fun a o e => by
    rw [upd_ne (ne_of_none e hp)]
    exact e
  have kF : Same c.F (upd c.F p (.tup vs)) := fun a o e => by
    rw [upd_ne (ne_of_none e hF)]
    exact e
  refine ⟨⟨kF, fun a o e => ?_, fun a o e _ _ => kp a o e, fun a n => ?_, List.prefix_rfl, fun _ h => .inl h, tab_all kp⟩, ⟨fun a o e => ?_, ok.nd, ok.len, fun a ha => ?_, fun n a es h1 h2 => ?_, nt_upd ok.nt (fun ps z => by cases z)⟩, ⟨p, vs, rfl, SqT.of upd_same, hl, RpAll.mono kF List.prefix_rfl _ _ r⟩⟩
  · by_cases hb : a = p
    · subst hb; exact .inr hp
    · have e' : upd c.F p (.tup vs) a = some o := e
      rw [upd_ne hb] at e'
      exact .inl e'
  · cases q : c.H a with
    | none => exact absurd q n
    | some o =>
      show upd c.H p (.tup vs) a ≠ none
      rw [kp a o q]
      exact fun z => by cases z
  · have e' : upd c.F p (.tup vs) a = some o := e
    by_cases hb : a = p
    · subst hb
      rw [upd_same] at e'
      rw [← e']
      exact upd_same
    · rw [upd_ne hb] at e'
      exact kp a o (ok.f a o e')
  · show upd c.F p (.tup vs) a = none
    rw [upd_ne (fun z => hι (by rw [← z]; exact ha))]
    exact ok.fi a ha
  · obtain ⟨ws, g1, g2, g3⟩ := ok.s n a es h1 h2
    exact ⟨ws, kp _ _ g1, g2, RpAll.mono kF List.prefix_rfl _ _ g3⟩
def eTup (l : EL) : EE := fun env S => (l env S).bind fun xs S => if xs.length ≤ 1000 then .ok (.tup xs) S else .stuck
def eDsp (l : EL) : EL := fun env S => (l env S).bind fun xs S => if xs.length ≤ 1000 then .ok xs S else .stuck
theorem sz1000 {n : Nat} (h : n ≤ 1000) : n ≤ sizeLine := Nat.le_trans h (by decide)
theorem d_tup {x1} (ha : PA X es (tA K B l)) : PE X (.Tuple es x1 pos) (tD K B (eTup l)) := (pe_tup ha).imp fun σ H Q ⟨F, ι, S, env, st, e⟩ => by
  refine ⟨F, ι, S, env, st, Post.bind_imp e fun xs S1 e vs c1 s1 o1 r1 => ?_⟩
  obtain ⟨d, S', e, k⟩ := Post.nr e (by intro x0 S0 z; first | (cases z; done) | (split at z <;> first | (cases z; done) | (split at z <;> first | (cases z; done) | (split at z <;> first | (cases z; done) | (split at z <;> cases z)))))
  split at e
  · rename_i hz
    cases e
    have hl : vs.length ≤ sizeLine := by rw [r1.len]; exact sz1000 hz
    refine ⟨hl, fun p hp => ?_⟩
    obtain ⟨s2, o2, r2⟩ := new_tup o1 hp hl r1
    exact k _ ⟨_, _, _⟩ (s1.trans s2) o2 r2
  · cases e
theorem n_lst (ha : PA X es (tA K B l)) : PE X (.List es pos) (tN K B (eDsp l)) := (pe_lst ha).imp fun σ H Q ⟨F, ι, S, env, st, e⟩ => by
  refine ⟨F, ι, S, env, st, Post.bind_imp e fun xs S1 e vs c1 s1 o1 r1 => ?_⟩
  obtain ⟨d, S', e, k⟩ := Post.nr e (by intro x0 S0 z; first | (cases z; done) | (split at z <;> first | (cases z; done) | (split at z <;> first | (cases z; done) | (split at z <;> first | (cases z; done) | (split at z <;> cases z)))))
  split at e
  · rename_i hz
    cases e
    have hl : vs.length ≤ sizeLine := by rw [r1.len]; exact sz1000 hz
    refine ⟨hl, fun p hp => ?_⟩
    obtain ⟨s2, o2, a, ws, g1, g2, g3⟩ := new_lst o1 hp hl r1
    have nH : (Bas.mk F ι H).H a = none := by
      cases q : (Bas.mk F ι H).H a with
      | none => rfl
      | some o => exact absurd g2 (s1.dom a (by rw [q]; exact fun z => by cases z))
    exact k _ ⟨_, _, _⟩ (s1.trans s2) o2 ⟨a, ws, g1, nH, g3⟩
  · cases e
end
end DL

/-! E3: statements, targets, loops, comprehensions, defs. -/
namespace DL
open PySem PySem.Spec PyProof.Rows L2

/-! ### places that nobody else knows -/
def LAt (c : Bas) (a : Addr) (o : HO) : Prop := c.H a = some o ∧ c.F a = none ∧ a ∉ c.ι
theorem LAt.step {c c' : Bas} {a : Addr} {xs : List V} (h : LAt c a (.lst xs)) (s : Step c c') : LAt c' a (.lst xs) := by
  obtain ⟨h1, h3, h4⟩ := h
  refine ⟨s.fr a _ h1 h4 (fun ps z => by cases z), ?_, fun hm => ?_⟩
  · cases q : c'.F a with
    | none => rfl
    | some o =>
      rcases s.grow a o q with r | r
      · rw [h3] at r; cases r
      · rw [h1] at r; cases r
  · rcases s.new a hm with r | r
    · exact h4 r
    · rw [h1] at r; cases r
/-- a place that was new changes -/
theorem Step.upd_new {c c' : Bas} {a : Addr} {o : HO} (s : Step c c') (h : c.H a = none) {u : HO} (hl : c'.H a = some u) (hp : Pln u) : Step c ⟨c'.F, c'.ι, upd c'.H a o⟩ where
  same := s.same
  grow := s.grow
  fr := fun b u e n t => by
    show upd c'.H a o b = some u
    rw [upd_ne (ne_of_none e h)]
    exact s.fr b u e n t
  dom := fun b n => by
    by_cases hb : b = a
    · subst hb; exact absurd h n
    · show upd c'.H a o b ≠ none
      rw [upd_ne hb]
      exact s.dom b n
  pre := s.pre
  new := s.new
  tab := fun P q t => tab_upd hl hp P q (s.tab P q t)
theorem Sok.upd {K : Kt} {c : Bas} {S : Sto} {a : Addr} {o : HO} (ok : Sok K c S) (h1 : c.F a = none) (h2 : a ∉ c.ι) : Sok K ⟨c.F, c.ι, upd c.H a o⟩ S where
  f := fun b u e => by
    show L2.upd c.H a o b = some u
    rw [upd_ne (ne_of_none e h1)]
    exact ok.f b u e
  nd := ok.nd
  nt := ok.nt
  len := ok.len
  fi := ok.fi
  s := fun n b ds e1 e2 => by
    obtain ⟨vs, g1, g2, g3⟩ := ok.s n b ds e1 e2
    refine ⟨vs, ?_, g2, g3⟩
    show L2.upd c.H a o b = some _
    rw [upd_ne (fun z => h2 (by rw [← z]; exact List.mem_of_getElem? e1))]
    exact g1

/-! ### environments -/
theorem Eok.set_sh {K : Kt} {B : Hp} {c : Bas} {σ : St} {env : Env} (h : Eok K B c σ env) (i : Nat) {d : D} {v : V} (r : Rp K c.F c.ι d v) : Eok K B c (σ.set i (some v)) (env.set i (some (.sh d))) where
  len := by rw [List.length_set, List.length_set]; exact h.len
  at_ := fun j x e => by
    by_cases hj : i = j
    · subst hj
      have hl : i < env.length := by
        have := (List.getElem?_eq_some_iff.mp e).1
        rw [List.length_set] at this
        exact this
      rw [List.getElem?_set_self hl] at e
      cases e
      exact ⟨v, List.getElem?_set_self (by rw [← h.len]; exact hl), r⟩
    · rw [List.getElem?_set_ne hj] at e ⊢
      exact h.at_ j x e
  inj := fun j k ds es e1 e2 hjk => by
    have hj : i ≠ j := fun z => by
      subst z
      have hl : i < env.length := by
        have := (List.getElem?_eq_some_iff.mp e1).1
        rw [List.length_set] at this
        exact this
      rw [List.getElem?_set_self hl] at e1
      cases e1
    have hk : i ≠ k := fun z => by
      subst z
      have hl : i < env.length := by
        have := (List.getElem?_eq_some_iff.mp e2).1
        rw [List.length_set] at this
        exact this
      rw [List.getElem?_set_self hl] at e2
      cases e2
    rw [List.getElem?_set_ne hj] at e1 ⊢
    rw [List.getElem?_set_ne hk] at e2 ⊢
    exact h.inj j k ds es e1 e2 hjk
/-- a name gets a list of its own, which no other name has -/
theorem Eok.set_own {K : Kt} {B : Hp} {c : Bas} {σ : St} {env : Env} (h : Eok K B c σ env) (i : Nat) {ds : List D} {v : V} (r : OwnAt K B c ds v) (hn : ∀ j es, j ≠ i → env[j]? = some (some (.own es)) → σ[j]? ≠ some (some v)) : Eok K B c (σ.set i (some v)) (env.set i (some (.own ds))) where
  len := by rw [List.length_set, List.length_set]; exact h.len
  at_ := fun j x e => by
    by_cases hj : i = j
    · subst hj
      have hl : i < env.length := by
        have := (List.getElem?_eq_some_iff.mp e).1
        rw [List.length_set] at this
        exact this
      rw [List.getElem?_set_self hl] at e
      cases e
      exact ⟨v, List.getElem?_set_self (by rw [← h.len]; exact hl), r⟩
    · rw [List.getElem?_set_ne hj] at e ⊢
      exact h.at_ j x e
  inj := fun j k ds es e1 e2 hjk => by
    have hlj : j < env.length := by
      have := (List.getElem?_eq_some_iff.mp e1).1
      rw [List.length_set] at this
      exact this
    have hlk : k < env.length := by
      have := (List.getElem?_eq_some_iff.mp e2).1
      rw [List.length_set] at this
      exact this
    by_cases hj : i = j
    · subst hj
      rw [List.getElem?_set_self (by rw [← h.len]; exact hlj), List.getElem?_set_ne hjk]
      rw [List.getElem?_set_ne hjk] at e2
      exact fun z => hn k _ (fun z => hjk z.symm) e2 z.symm
    · by_cases hk : i = k
      · subst hk
        rw [List.getElem?_set_self (show i < σ.length by rw [← h.len]; exact hlk), List.getElem?_set_ne hj]
        rw [List.getElem?_set_ne hj] at e1
        exact hn j _ hjk e1
      · rw [List.getElem?_set_ne hj] at e1 ⊢
        rw [List.getElem?_set_ne hk] at e2 ⊢
        exact h.inj j k _ _ e1 e2 hjk
def wipeE (env : Env) : List Nat → Env
  | [] => env
  | v :: vs => (wipeE env vs).set v none
theorem Eok.set_none {K : Kt} {B : Hp} {c : Bas} {σ : St} {env : Env} (h : Eok K B c σ env) (i : Nat) : Eok K B c (σ.set i none) (env.set i none) where
  len := by rw [List.length_set, List.length_set]; exact h.len
  at_ := fun j x e => by
    by_cases hj : i = j
    · subst hj
      have hl : i < env.length := by
        have := (List.getElem?_eq_some_iff.mp e).1
        rw [List.length_set] at this
        exact this
      rw [List.getElem?_set_self hl] at e
      cases e
    · rw [List.getElem?_set_ne hj] at e ⊢
      exact h.at_ j x e
  inj := fun j k ds es e1 e2 hjk => by
    have hj : i ≠ j := fun z => by
      subst z
      have hl : i < env.length := by
        have := (List.getElem?_eq_some_iff.mp e1).1
        rw [List.length_set] at this
        exact this
      rw [List.getElem?_set_self hl] at e1
      cases e1
    have hk : i ≠ k := fun z => by
      subst z
      have hl : i < env.length := by
        have := (List.getElem?_eq_some_iff.mp e2).1
        rw [List.length_set] at this
        exact this
      rw [List.getElem?_set_self hl] at e2
      cases e2
    rw [List.getElem?_set_ne hj] at e1 ⊢
    rw [List.getElem?_set_ne hk] at e2 ⊢
    exact h.inj j k ds es e1 e2 hjk
theorem Eok.wipe {K : Kt} {B : Hp} {c : Bas} {σ : St} {env : Env} (h : Eok K B c σ env) : ∀ vs : List Nat, Eok K B c (L2.wipe σ vs) (wipeE env vs)
  | [] => h
  | v :: vs => (Eok.wipe h vs).set_none v
theorem wipe_get {σ : St} {j : Nat} : ∀ {vs : List Nat}, (wipe σ vs)[j]? = if j < σ.length ∧ j ∈ vs then some none else σ[j]?
  | [] => by simp [wipe]
  | v :: vs => by
    show ((wipe σ vs).set v none)[j]? = _
    by_cases hj : v = j
    · subst hj
      by_cases hl : v < σ.length
      · rw [List.getElem?_set_self (by rw [wipe_length]; exact hl), if_pos ⟨hl, List.mem_cons_self⟩]
      · rw [if_neg (fun z => hl z.1), List.getElem?_eq_none (by rw [List.length_set, wipe_length]; omega), List.getElem?_eq_none (by omega)]
    · rw [List.getElem?_set_ne hj, wipe_get]
      by_cases hl : j < σ.length ∧ j ∈ vs
      · rw [if_pos hl, if_pos ⟨hl.1, List.mem_cons_of_mem _ hl.2⟩]
      · rw [if_neg hl, if_neg (fun z => hl ⟨z.1, by
          rcases List.mem_cons.mp z.2 with r | r
          · exact absurd r.symm hj
          · exact r⟩)]
theorem wipe_eq {σ σ' : St} {vs : List Nat} (hl : σ'.length = σ.length) (h : ∀ j, j ∉ vs → σ'[j]? = σ[j]?) : wipe σ' vs = wipe σ vs := by
  refine List.ext_getElem? fun j => ?_
  rw [wipe_get, wipe_get, hl]
  by_cases hj : j ∈ vs
  · by_cases hk : j < σ.length
    · rw [if_pos ⟨hk, hj⟩, if_pos ⟨hk, hj⟩]
    · rw [if_neg (fun z => hk z.1), if_neg (fun z => hk z.1), List.getElem?_eq_none (by omega), List.getElem?_eq_none (by omega)]
  · rw [if_neg (fun z => hj z.2), if_neg (fun z => hj z.2), h j hj]
theorem wipe_idem {σ : St} {vs : List Nat} : wipe (wipe σ vs) vs = wipe σ vs := wipe_eq (σ := σ) (wipe_length _ _) fun j hj => by
  rw [wipe_get, if_neg (fun z => hj z.2)]

/-! ### targets -/
abbrev GE := D → Env → Option Env
/-- ts: the places that are stored -/
def tG (K : Kt) (B : Bg) (g : GE) (ts : List Nat) : TG := fun v σ H Q => ∃ F ι S env d env', Stt K B ⟨F, ι, H⟩ S σ env ∧ Rp K F ι d v ∧ g d env = some env' ∧
  ∀ σ', Stt K B ⟨F, ι, H⟩ S σ' env' → σ'.length = σ.length → (∀ j, j ∉ ts → σ'[j]? = σ[j]?) → Q σ' H
def tGs (K : Kt) (B : Bg) (g : List D → Env → Option Env) (ts : List Nat) : TGs := fun vs σ H Q => ∃ F ι S env ds env', Stt K B ⟨F, ι, H⟩ S σ env ∧ RpAll K F ι ds vs ∧ g ds env = some env' ∧
  ∀ σ', Stt K B ⟨F, ι, H⟩ S σ' env' → σ'.length = σ.length → (∀ j, j ∉ ts → σ'[j]? = σ[j]?) → Q σ' H
theorem _root_.L2.PG.imp {X : Cx} {tg : Expr} {t t' : TG} (h : PG X tg t) (i : ∀ v σ H Q, t' v σ H Q → t v σ H Q) : PG X tg t' := ⟨fun pins s σ H v u Q I r q => h.run pins s σ H v u Q I r (i v σ H Q q)⟩
theorem _root_.L2.PG.or {X : Cx} {tg : Expr} {t t' : TG} (h : PG X tg t) (h' : PG X tg t') : PG X tg (fun v σ H Q => t v σ H Q ∨ t' v σ H Q) := ⟨fun pins s σ H v u Q I r q => q.elim (h.run pins s σ H v u Q I r) (h'.run pins s σ H v u Q I r)⟩
theorem _root_.L2.PGs.imp {X : Cx} {tg : List Expr} {t t' : TGs} (h : PGs X tg t) (i : ∀ v σ H Q, t' v σ H Q → t v σ H Q) : PGs X tg t' := ⟨fun pins s σ H v u Q I r q => h.run pins s σ H v u Q I r (i v σ H Q q)⟩
def gN (i : Nat) : GE := fun d env => some (env.set i (some (.sh d)))
def gsNil : List D → Env → Option Env := fun ds env => match ds with
  | [] => some env
  | _ => none
def gsCons (g : GE) (gs : List D → Env → Option Env) : List D → Env → Option Env := fun ds env => match ds with
  | d :: r => (g d env).bind (gs r)
  | [] => none
/-- a, b = a tuple or a list -/
def gTp (n : Nat) (gs : List D → Env → Option Env) : GE := fun d env => match d with
  | .tup ds => if ds.length = n then gs ds env else none
  | .lst ds => if ds.length = n then gs ds env else none
  | _ => none
section
variable {X : Cx} {K : Kt} {B : Bg} {pos : Pos} {e : Expr} {es : List Expr}
theorem g_name {t : TG} {tg : Expr} {i : Nat} (h : PG X tg (gName i)) : PG X tg (tG K B (gN i) [i]) := h.imp fun v σ H Q ⟨F, ι, S, env, d, env', st, r, e, k⟩ => by
  cases e
  exact k _ ⟨st.ok, st.env.set_sh i r, st.st⟩ (List.length_set) fun j hj => List.getElem?_set_ne (fun z => hj (by rw [z]; exact List.mem_singleton.mpr rfl))
theorem gs_nil : PGs X [] (tGs K B gsNil []) := pgs_nil.imp fun v σ H Q ⟨F, ι, S, env, ds, env', st, r, e, k⟩ => by
  cases ds with
  | nil => cases e; exact ⟨r, k σ st rfl fun _ _ => rfl⟩
  | cons d ds => cases e
theorem gs_cons {g : GE} {gs : List D → Env → Option Env} {ts us : List Nat} (h : PG X e (tG K B g ts)) (hs : PGs X es (tGs K B gs us)) (ha : (assignEach (e :: es) X.env).map (·.2) = assign e X.env :: (assignEach es X.env).map (·.2) := by rfl) :
    PGs X (e :: es) (tGs K B (gsCons g gs) (ts ++ us)) := (pgs_cons h hs ha).imp fun v σ H Q ⟨F, ι, S, env, ds, env', st, r, e, k⟩ => by
  cases ds with
  | nil => cases e
  | cons d ds =>
    obtain ⟨v1, r1, e1, h1, h2⟩ := r
    obtain ⟨env1, g1, g2⟩ := Option.bind_eq_some_iff.mp e
    refine ⟨v1, r1, e1, F, ι, S, env, d, env1, st, h1, g1, fun σ1 st1 l1 f1 => ?_⟩
    exact ⟨F, ι, S, env1, ds, env', st1, h2, g2, fun σ2 st2 l2 f2 => k σ2 st2 (l2.trans l1) fun j hj => (f2 j fun z => hj (List.mem_append_right _ z)).trans (f1 j fun z => hj (List.mem_append_left _ z))⟩
theorem g_tup {k n : Nat} {gs : List D → Env → Option Env} {ts : List Nat} (hK : kt X = K) (hc : X.calm = true) (h : PGs X es (tGs K B gs ts))
    (hn : (assignEach es X.env).length = n := by rfl) (hst : (assignEach es X.env).findIdx? (·.1) = none := by rfl) : PG X (.Tuple es k pos) (tG K B (gTp n gs) ts) := by
  subst hK
  refine ((pg_tup hc h hn hst).or (pg_unl hc h hn hst)).imp fun v σ H Q ⟨F, ι, S, env, d, env', st, r, e, q⟩ => ?_
  cases d with
  | tup ds =>
    obtain ⟨a, vs, e1, h1, _, h2⟩ := r
    have e' : (if ds.length = n then gs ds env else none) = some env' := e
    split at e'
    · rename_i hl
      exact .inl ⟨a, vs, e1, same_t st.ok.f h1, by rw [h2.len, hl], F, ι, S, env, ds, env', st, h2, e', q⟩
    · cases e'
  | lst ds =>
    obtain ⟨a, vs, e1, h1, _, h2⟩ := r
    have e' : (if ds.length = n then gs ds env else none) = some env' := e
    split at e'
    · rename_i hl
      exact .inr ⟨a, vs, e1, st.ok.f.seq h1, by rw [h2.len, hl], F, ι, S, env, ds, env', st, h2, e', q⟩
    · cases e'
  | non => cases e
  | bl b => cases e
  | int b => cases e
  | str b => cases e
  | mu b => cases e
  | ty b => cases e
  | dct ks xs => cases e
  | exn c ns xs => cases e
  | obj c ns xs => cases e
end

/-! ### statements -/
/-- what is known behind some statements -/
structure Adv (c c' : Bas) : Prop where
  same : Same c.F c'.F
  pre : c.ι <+: c'.ι
theorem Adv.refl (c : Bas) : Adv c c := ⟨Same.refl _, List.prefix_rfl⟩
theorem Adv.trans {a b c : Bas} (h : Adv a b) (q : Adv b c) : Adv a c := ⟨h.same.trans q.same, h.pre.trans q.pre⟩
theorem Step.adv {a b : Bas} (h : Step a b) : Adv a b := ⟨h.same, h.pre⟩
theorem Adv.rp {K : Kt} {c c' : Bas} (h : Adv c c') {d : D} {v : V} (r : Rp K c.F c.ι d v) : Rp K c'.F c'.ι d v := Rp.mono h.same h.pre d v r
theorem Adv.rpAll {K : Kt} {c c' : Bas} (h : Adv c c') {d : List D} {v : List V} (r : RpAll K c.F c.ι d v) : RpAll K c'.F c'.ι d v := RpAll.mono h.same h.pre d v r
def outK (K : Kt) (B : Bg) (c : Bas) (S' : Sto) (E : Ends) : Out → Prop
  | .nx env' => ∀ σ' c', Stt K B c' S' σ' env' → Adv c c' → E.nx σ' c'.H
  | .rt d => ∀ v c', Step B.toBas c' → Sok K c' S' → Rp K c'.F c'.ι d v → E.rt v c'.H
  | .bk env' => ∀ σ' c', Stt K B c' S' σ' env' → Adv c c' → E.bk σ' c'.H
  | .ct env' => ∀ σ' c', Stt K B c' S' σ' env' → Adv c c' → E.ct σ' c'.H
  | .rs x env' => ∀ σ' c' cls dx, Stt K B c' S' σ' env' → ExnAt K c' x cls dx → B.W cls (some dx) σ' c'.H
theorem outK.adv {K : Kt} {B : Bg} {c c1 : Bas} {S' : Sto} {E : Ends} (a : Adv c c1) : ∀ {o : Out}, outK K B c S' E o → outK K B c1 S' E o
  | .nx _, h => fun σ' c' st s => h σ' c' st (a.trans s)
  | .rt _, h => h
  | .bk _, h => fun σ' c' st s => h σ' c' st (a.trans s)
  | .ct _, h => fun σ' c' st s => h σ' c' st (a.trans s)
  | .rs _ _, h => h
theorem bindS_post {α : Type} {K : Kt} {B : Bg} {c : Bas} {S' : Sto} {E : Ends} {env : Env} {σ : St} {r : Res α} {f : α → Sto → Res Out} {o : Out} (e : r.bindS env f = .ok o S') (q : outK K B c S' E o) : Post r (fun x S1 => f x S1 = .ok o S') (ExK K B σ env) := by
  cases r with
  | ok a S => exact e
  | ex x S =>
    cases e
    exact fun c' cls dx st h => q σ c' cls dx st h
  | stuck => cases e
def tK (K : Kt) (B : Bg) (f : SS) : TS := fun E σ H => ∃ F ι S env, Stt K B ⟨F, ι, H⟩ S σ env ∧ ∃ o S', f env S = .ok o S' ∧ outK K B ⟨F, ι, H⟩ S' E o
def sNil : SS := fun env S => .ok (.nx env) S
def sSeq (f g : SS) : SS := fun env S => (f env S).bind fun o S => match o with
  | .nx env => g env S
  | o => .ok o S
def sSet (i : Nat) (f : EE) : SS := fun env S => (f env S).bindS env fun d S => .ok (.nx (env.set i (some (.sh d)))) S
def sNew (i : Nat) (f : EL) : SS := fun env S => (f env S).bindS env fun ds S => .ok (.nx (env.set i (some (.own ds)))) S
def sRet (f : EE) : SS := fun env S => (f env S).bindS env fun d S => .ok (.rt d) S
def sRetN : SS := fun _ S => .ok (.rt .non) S
def sIf (p : ET) (f g : SS) : SS := fun env S => (p env S).bindS env fun b S => if b = true then f env S else g env S
def sDrop (f : EE) : SS := fun env S => (f env S).bindS env fun _ S => .ok (.nx env) S
def sAsgT (g : GE) (f : EE) : SS := fun env S => (f env S).bindS env fun d S => match g d env with
  | some env' => .ok (.nx env') S
  | none => .stuck
/-- xs.append(e), xs a list of the name's own -/
def sApp (i : Nat) (f : EE) : SS := fun env S => match env[i]? with
  | some (some (.own ds)) => (f env S).bindS env fun d S => if ds.length < 1000000 then .ok (.nx (env.set i (some (.own (ds ++ [d]))))) S else .stuck
  | _ => .stuck
/-- a name's own list becomes data (nothing happens) -/
def sFrz (i : Nat) (g : SS) : SS := fun env S => match env[i]? with
  | some (some (.own ds)) => g (env.set i (some (.sh (.lst ds)))) S
  | _ => g env S
/-- o[k] = e, o a thing that changes -/
def sStore (f o k : EE) : SS := fun env S => (f env S).bindS env fun d S => (o env S).bindS env fun x S => (k env S).bindS env fun i S => match x, i with
  | .mu n, .int j => (match S[n]? with
    | some ds => (match ixN ds.length j with
      | some t => .ok (.nx env) (S.set n (ds.set t d))
      | none => .stuck)
    | none => .stuck)
  | _, _ => .stuck
theorem Stt.frz {K : Kt} {B : Bg} {c : Bas} {S : Sto} {σ : St} {env : Env} {i : Nat} {ds : List D} (st : Stt K B c S σ env) (h : env[i]? = some (some (.own ds))) :
    ∃ F', Adv c ⟨F', c.ι, c.H⟩ ∧ Stt K B ⟨F', c.ι, c.H⟩ S σ (env.set i (some (.sh (.lst ds)))) := by
  obtain ⟨v, hv, a, vs, e, h1, hl, h2, h3, h4, h5⟩ := st.env.at_ i _ h
  subst e
  have sm : Same c.F (upd c.F a (.lst vs)) := fun b o q => by
    rw [upd_ne (ne_of_none q h3)]
    exact q
  have ad : Adv c ⟨upd c.F a (.lst vs), c.ι, c.H⟩ := ⟨sm, List.prefix_rfl⟩
  refine ⟨upd c.F a (.lst vs), ad, ⟨⟨fun b o q => ?_, st.ok.nd, st.ok.len, fun b hb => ?_, fun n b es g1 g2 => ?_, nt_upd st.ok.nt (fun ps z => by cases z)⟩, ⟨by rw [List.length_set]; exact st.env.len, fun j x e => ?_, fun j k es fs e1 e2 hjk => ?_⟩, ⟨st.st.same.trans sm, fun b o q => ?_, st.st.fr, st.st.dom, st.st.pre, st.st.new, st.st.tab⟩⟩⟩
  · have q' : upd c.F a (.lst vs) b = some o := q
    by_cases hb : b = a
    · subst hb
      rw [upd_same] at q'
      rw [← q']
      exact h1
    · rw [upd_ne hb] at q'
      exact st.ok.f b o q'
  · show upd c.F a (.lst vs) b = none
    rw [upd_ne (fun z => h4 (by rw [← z]; exact hb))]
    exact st.ok.fi b hb
  · obtain ⟨ws, g3, g4, g5⟩ := st.ok.s n b es g1 g2
    exact ⟨ws, g3, g4, ad.rpAll g5⟩
  · by_cases hj : i = j
    · subst hj
      have hl' : i < env.length := (List.getElem?_eq_some_iff.mp h).1
      rw [List.getElem?_set_self hl'] at e
      cases e
      exact ⟨.ref a, hv, a, vs, rfl, SqL.of upd_same, hl, ad.rpAll h2⟩
    · rw [List.getElem?_set_ne hj] at e
      obtain ⟨w, g1, g2⟩ := st.env.at_ j x e
      refine ⟨w, g1, ?_⟩
      cases x with
      | sh d => exact ad.rp g2
      | fn _ => exact g2
      | own es =>
        obtain ⟨b, ws, e2, k1, k2, k3, k4, k5, k6⟩ := g2
        refine ⟨b, ws, e2, k1, k2, ad.rpAll k3, ?_, k5, k6⟩
        have hba : b ≠ a := fun z => st.env.inj i j ds es h e hj (by rw [hv, g1, e2, z])
        show upd c.F a (.lst vs) b = none
        rw [upd_ne hba]
        exact k4
  · have hj : i ≠ j := fun z => by
      subst z
      rw [List.getElem?_set_self ((List.getElem?_eq_some_iff.mp h).1)] at e1
      cases e1
    have hk : i ≠ k := fun z => by
      subst z
      rw [List.getElem?_set_self ((List.getElem?_eq_some_iff.mp h).1)] at e2
      cases e2
    rw [List.getElem?_set_ne hj] at e1
    rw [List.getElem?_set_ne hk] at e2
    exact st.env.inj j k es fs e1 e2 hjk
  · have q' : upd c.F a (.lst vs) b = some o := q
    by_cases hb : b = a
    · subst hb; exact .inr h5
    · rw [upd_ne hb] at q'
      exact st.st.grow b o q'
section
variable {X : Cx} {K : Kt} {B : Bg} {pos : Pos} {e : Expr} {es : List Expr} {f o k : EE} {l : EL} {p : ET} {s t : SS} {st : Stmt} {sts : List Stmt}
theorem ss_nil : PSs X [] (tK K B sNil) := pss_nil.imp fun E σ H ⟨F, ι, S, env, st, o, S', e, q⟩ => by
  cases e
  exact q σ _ st (Adv.refl _)
theorem ss_cons (h1 : PS X st (tK K B s)) (h2 : PSs X sts (tK K B t)) : PSs X (st :: sts) (tK K B (sSeq s t)) := (pss_cons h1 h2).imp fun E σ H ⟨F, ι, S, env, st, o, S', e, q⟩ => by
  obtain ⟨o1, S1, e1, e⟩ := Res.bind_ok e
  refine ⟨F, ι, S, env, st, o1, S1, e1, ?_⟩
  cases o1 with
  | nx env1 => exact fun σ1 c1 st1 s1 => ⟨c1.F, c1.ι, S1, env1, st1, o, S', e, outK.adv s1 q⟩
  | rt d => cases e; exact q
  | bk d => cases e; exact q
  | ct d => cases e; exact q
  | rs x d => cases e; exact q
theorem ss_one (h1 : PS X st (tK K B s)) : PSs X [st] (tK K B s) := pss_one h1
theorem ss_frz {i : Nat} (h : PSs X sts (tK K B s)) : PSs X sts (tK K B (sFrz i s)) := h.imp fun E σ H ⟨F, ι, S, env, st, o, S', e, q⟩ => by
  unfold sFrz at e
  split at e
  · rename_i ds hi
    obtain ⟨F', ad, st'⟩ := st.frz hi
    exact ⟨F', ι, S, _, st', o, S', e, outK.adv ad q⟩
  · exact ⟨F, ι, S, env, st, o, S', e, q⟩
theorem s_set {i : Nat} (h : PS X st (tAsg (tD K B f) (gName i))) : PS X st (tK K B (sSet i f)) := h.imp fun E σ H ⟨F, ι, S, env, st, o, S', e, q⟩ => by
  refine ⟨F, ι, S, env, st, (bindS_post e q).imp fun d S1 e v c1 s1 o1 r1 => ?_⟩
  cases e
  have st1 := st.step s1 o1
  exact q _ c1 ⟨st1.ok, st1.env.set_sh i r1, st1.st⟩ s1.adv
theorem NewAt.own {c c' b : Bas} {ds : List D} {v : V} (s : Step b c) (n : NewAt K c c' ds v) : OwnAt K b.H c' ds v := by
  obtain ⟨a, vs, e, h1, h2, h3, h4, h5, h6⟩ := n
  refine ⟨a, vs, e, h2, h3, h4, h5, h6, ?_⟩
  cases q : b.H a with
  | none => rfl
  | some o => exact absurd h1 (s.dom a (by rw [q]; exact fun z => by cases z))
theorem s_new {i : Nat} (h : PS X st (tAsg (tN K B l) (gName i))) : PS X st (tK K B (sNew i l)) := h.imp fun E σ H ⟨F, ι, S, env, st, o, S', e, q⟩ => by
  refine ⟨F, ι, S, env, st, (bindS_post e q).imp fun d S1 e v c1 s1 o1 n1 => ?_⟩
  cases e
  have st1 := st.step s1 o1
  refine q _ c1 ⟨st1.ok, st1.env.set_own i (NewAt.own st.st n1) (fun j es hj ej z => ?_), st1.st⟩ s1.adv
  -- another name's list stood before
  obtain ⟨w, g1, a, ws, e2, g2, _⟩ := st.env.at_ j _ ej
  obtain ⟨a', vs', e3, n2, _⟩ := n1
  rw [g1, e2, e3] at z
  cases z
  rw [n2] at g2
  cases g2
theorem s_ret (h : PE X e (tD K B f)) : PS X (.Return (some e) pos) (tK K B (sRet f)) := (ps_ret h).imp fun E σ H ⟨F, ι, S, env, st, o, S', e, q⟩ => by
  exact ⟨F, ι, S, env, st, (bindS_post e q).imp fun d S1 e v c1 s1 o1 r1 => by cases e; exact q v c1 (st.st.trans s1) o1 r1⟩
theorem s_retN : PS X (.Return none pos) (tK K B sRetN) := ps_retN.imp fun E σ H ⟨F, ι, S, env, st, o, S', e, q⟩ => by
  cases e
  exact q .non ⟨F, ι, H⟩ st.st st.ok rfl
theorem s_if {c : Expr} {a b : List Stmt} (hc : PT X c (tT K B p)) (ha : PSs X a (tK K B s)) (hb : PSs X b (tK K B t)) : PS X (.If c a b pos) (tK K B (sIf p s t)) := (ps_if hc ha hb).imp fun E σ H ⟨F, ι, S, env, st, o, S', e, q⟩ => by
  refine ⟨F, ι, S, env, st, (bindS_post e q).imp fun d S1 e c1 s1 o1 => ?_⟩
  cases d with
  | true => exact iteT ⟨c1.F, c1.ι, S1, env, st.step s1 o1, o, S', e, outK.adv s1.adv q⟩
  | false => exact iteF ⟨c1.F, c1.ι, S1, env, st.step s1 o1, o, S', e, outK.adv s1.adv q⟩
theorem s_drop (h : PE X e (tD K B f)) (hs : swapsWith e none pos.line X.env = pure false := by rfl) : PS X (.Expr e pos) (tK K B (sDrop f)) := (ps_expr h hs).imp fun E σ H ⟨F, ι, S, env, st, o, S', e, q⟩ => by
  exact ⟨F, ι, S, env, st, (bindS_post e q).imp fun d S1 e v c1 s1 o1 r1 => by cases e; exact q σ c1 (st.step s1 o1) s1.adv⟩
theorem s_asgT {g : GE} {ts : List Nat} (h : PS X st (tAsg (tD K B f) (tG K B g ts))) : PS X st (tK K B (sAsgT g f)) := h.imp fun E σ H ⟨F, ι, S, env, st, o, S', e, q⟩ => by
  refine ⟨F, ι, S, env, st, (bindS_post e q).imp fun d S1 e v c1 s1 o1 r1 => ?_⟩
  split at e
  · rename_i env' he
    cases e
    exact ⟨c1.F, c1.ι, _, env, d, env', st.step s1 o1, r1, he, fun σ' st' _ _ => q σ' c1 st' s1.adv⟩
  · cases e
theorem sizeM {n : Nat} (h : n < 1000000) : n < sizeLine := Nat.lt_of_lt_of_le h (by decide)
theorem s_app {i : Nat} {x : Expr} {apos : Pos} (hK : kt X = K) (hx : PE X x (tVar i)) (h : PE X e (tD K B f)) (hs : starEach [e] X.env = (false, eval e X.env) :: starEach [] X.env := by rfl)
    (hp : PS X st (tDrop (tBM X.K "list" rAppend (tVar i) (tCons (tD K B f) tNil)))) : PS X st (tK K B (sApp i f)) := hp.imp fun E σ H ⟨F, ι, S, env, st, o, S', e, q⟩ => by
  subst hK
  unfold sApp at e
  split at e
  · rename_i ds hi
    · obtain ⟨v, hv, a, vs, ev, h1, hl, h2, h3, h4, h5⟩ := st.env.at_ i _ hi
      subst ev
      refine ⟨.ref a, hv, .inl ⟨rfl, _, SqL.of h1⟩, F, ι, S, env, st, (bindS_post e q).imp fun d S1 e w c1 s1 o1 r1 => ?_⟩
      split at e
      rotate_left
      · cases e
      rename_i hz
      cases e
      have st1 := st.step s1 o1
      have la : LAt c1 a (.lst vs) := LAt.step (c := ⟨F, ι, H⟩) ⟨h1, h3, h4⟩ s1
      have hlen : vs.length < sizeLine := by rw [h2.len]; exact sizeM hz
      refine ⟨a, vs, w, rfl, rfl, la.1, hlen, ?_⟩
      refine q σ ⟨c1.F, c1.ι, upd c1.H a (.lst (vs ++ [w]))⟩ ⟨st1.ok.upd la.2.1 la.2.2, ?_, st1.st.upd_new h5 la.1 pln_lst⟩ ⟨s1.same, s1.pre⟩
      -- the names' values
      have sok : ∀ (x : Slot) (j : Nat) (u : V), j ≠ i → env[j]? = some (some x) → σ[j]? = some (some u) → SlotOk (kt X) B.H c1 x u → SlotOk (kt X) B.H ⟨c1.F, c1.ι, upd c1.H a (.lst (vs ++ [w]))⟩ x u := fun x j u hj ej eu hx => by
        cases x with
        | sh d => exact hx
        | fn _ => exact hx
        | own es =>
          obtain ⟨b, ws, e2, k1, k2, k3, k4, k5, k6⟩ := hx
          refine ⟨b, ws, e2, ?_, k2, k3, k4, k5, k6⟩
          have hba : b ≠ a := fun z => st.env.inj i j ds es hi ej (fun z => hj z.symm) (by rw [hv, eu, e2, z])
          show upd c1.H a _ b = some _
          rw [upd_ne hba]
          exact k1
      refine ⟨by rw [List.length_set]; exact st1.env.len, fun j x ej => ?_, fun j j2 es fs e2 e3 hjk => ?_⟩
      · by_cases hj : i = j
        · subst hj
          rw [List.getElem?_set_self ((List.getElem?_eq_some_iff.mp hi).1)] at ej
          cases ej
          exact ⟨.ref a, hv, a, vs ++ [w], rfl, upd_same, by rw [List.length_append]; exact hlen, (s1.rpAll h2).snoc r1, la.2.1, la.2.2, h5⟩
        · rw [List.getElem?_set_ne hj] at ej
          obtain ⟨u, g1, g2⟩ := st1.env.at_ j x ej
          exact ⟨u, g1, sok x j u (fun z => hj z.symm) ej g1 g2⟩
      · have own_of : ∀ (j : Nat) (es : List D), (env.set i (some (.own (ds ++ [d]))))[j]? = some (some (.own es)) → ∃ es', env[j]? = some (some (.own es')) := fun j es ej => by
          by_cases hj : i = j
          · subst hj; exact ⟨ds, hi⟩
          · rw [List.getElem?_set_ne hj] at ej; exact ⟨es, ej⟩
        obtain ⟨es', g1⟩ := own_of j es e2
        obtain ⟨fs', g2⟩ := own_of j2 fs e3
        exact st.env.inj j j2 es' fs' g1 g2 hjk
  · cases e
theorem s_store {x i : Expr} {tpos : Pos} (hv : PE X e (tD K B f)) (ho : PE X x (tD K B o)) (hi : PE X i (tD K B k)) (hp : PS X st (tAsg (tD K B f) (gSub (tD K B o) (tD K B k) rSetL))) : PS X st (tK K B (sStore f o k)) := hp.imp fun E σ H ⟨F, ι, S, env, st, oo, S', e, q⟩ => by
  refine ⟨F, ι, S, env, st, (bindS_post e q).imp fun d S1 e v1 c1 s1 o1 r1 => ?_⟩
  refine ⟨c1.F, c1.ι, S1, env, st.step s1 o1, (bindS_post e q).imp fun y S2 e v2 c2 s2 o2 r2 => ?_⟩
  refine ⟨c2.F, c2.ι, S2, env, st.step (s1.trans s2) o2, (bindS_post e q).imp fun z S3 e v3 c3 s3 o3 r3 => ?_⟩
  split at e
  · rename_i n j _
    split at e
    · rename_i ds hS
      split at e
      · rename_i t ht
        cases e
        obtain ⟨a, ea, ha⟩ := s3.rp r2
        have hj : v3 = .int j := r3
        obtain ⟨vs, h1, hl, h2⟩ := o3.s n a ds ha hS
        refine ⟨a, vs, j, t, ea, hj, h1, by rw [h2.len]; exact ht, ?_⟩
        have sm := (s1.trans s2).trans s3
        have st3 := st.step sm o3
        have ham : a ∈ c3.ι := List.mem_of_getElem? ha
        -- the store with its new content
        have rd : Rp K c3.F c3.ι d v1 := s3.rp (s2.rp r1)
        have ok' : Sok K ⟨c3.F, c3.ι, upd c3.H a (.lst (vs.set t v1))⟩ (S3.set n (ds.set t d)) := by
          refine ⟨fun b u q => ?_, o3.nd, by rw [List.length_set]; exact o3.len, o3.fi, fun m b es g1 g2 => ?_, o3.nt⟩
          · have hb : b ≠ a := fun z => by
              subst z
              have := o3.fi b ham
              rw [show c3.F b = some u from q] at this
              cases this
            show upd c3.H a _ b = some u
            rw [upd_ne hb]
            exact o3.f b u q
          · by_cases hm : n = m
            · subst hm
              have hba : b = a := by
                have g1' : c3.ι[n]? = some b := g1
                rw [ha] at g1'
                exact (Option.some.inj g1').symm
              subst hba
              rw [List.getElem?_set_self ((List.getElem?_eq_some_iff.mp hS).1)] at g2
              cases g2
              exact ⟨_, upd_same, by rw [List.length_set]; exact hl, h2.set t rd⟩
            · rw [List.getElem?_set_ne hm] at g2
              obtain ⟨ws, k1, k2, k3⟩ := o3.s m b es g1 g2
              refine ⟨ws, ?_, k2, k3⟩
              have hba : b ≠ a := fun z => by
                subst z
                have n1 := (List.getElem?_eq_some_iff.mp ha)
                have n2 := (List.getElem?_eq_some_iff.mp (show c3.ι[m]? = some b from g1))
                exact hm ((List.getElem_inj o3.nd).mp (n1.2.trans n2.2.symm))
              show upd c3.H a _ b = some _
              rw [upd_ne hba]
              exact k1
        have nB : ∀ b u, B.H b = some u → b ∉ B.ι → b ≠ a := fun b u hb hn z => by
          subst z
          rcases st3.st.new b ham with r | r
          · exact hn r
          · rw [hb] at r; cases r
        refine q σ ⟨c3.F, c3.ι, upd c3.H a (.lst (vs.set t v1))⟩ ⟨ok', ⟨st3.env.len, fun j2 x ej => ?_, st3.env.inj⟩, ⟨st3.st.same, st3.st.grow, fun b u hb hn ht => ?_, fun b hb => ?_, st3.st.pre, st3.st.new, fun P q t => tab_upd h1 pln_lst P q (st3.st.tab P q t)⟩⟩ ⟨sm.same, sm.pre⟩
        · obtain ⟨u, g1, g2⟩ := st3.env.at_ j2 x ej
          refine ⟨u, g1, ?_⟩
          cases x with
          | sh d => exact g2
          | fn _ => exact g2
          | own es =>
            obtain ⟨b, ws, e4, k1, k2, k3, k4, k5, k6⟩ := g2
            refine ⟨b, ws, e4, ?_, k2, k3, k4, k5, k6⟩
            show upd c3.H a _ b = some _
            rw [upd_ne (fun z => k5 (by rw [z]; exact ham))]
            exact k1
        · show upd c3.H a _ b = some u
          rw [upd_ne (nB b u hb hn)]
          exact st3.st.fr b u hb hn ht
        · by_cases hba : b = a
          · subst hba
            show upd c3.H b _ b ≠ none
            rw [upd_same]
            exact fun z => by cases z
          · show upd c3.H a _ b ≠ none
            rw [upd_ne hba]
            exact st3.st.dom b hb
      · cases e
    · cases e
  · cases e
end
end DL

/-! E4: what is walked, loops, comprehensions, defs and their calls. -/
namespace DL
open PySem PySem.Spec PyProof.Rows L2

/-! ### what is walked: it gives these data, one after another, as long as what was known stays -/
structure WalkD (K : Kt) (c : Bas) (J : It) (ds : List D) : Prop where
  len : ds.length ≤ sizeLine
  go : ∀ (i : Nat) (c' : Bas) (S' : Sto), Adv c c' → Sok K c' S' → i < ds.length → J.go i c'.H
  stop : ∀ (c' : Bas) (S' : Sto), Adv c c' → Sok K c' S' → J.stop ds.length c'.H
  yld : ∀ (i : Nat) (c' : Bas) (S' : Sto) (x : V) (H' : Hp), Adv c c' → Sok K c' S' → i < ds.length → J.yld i c'.H x H' →
    ∃ d F', ds[i]? = some d ∧ Step c' ⟨F', c'.ι, H'⟩ ∧ Sok K ⟨F', c'.ι, H'⟩ S' ∧ Rp K F' c'.ι d x
def tI (K : Kt) (B : Bg) (f : EL) : TI := fun σ H R => ∃ F ι S env, Stt K B ⟨F, ι, H⟩ S σ env ∧ Post (f env S) (fun ds S' => ∀ J c', Step ⟨F, ι, H⟩ c' → Sok K c' S' → WalkD K c' J ds → R J c'.H) (ExK K B σ env)
theorem _root_.L2.PI.imp {X : Cx} {tg iter : Expr} {t t' : TI} (h : PI X tg iter t) (i : ∀ σ H R, t' σ H R → t σ H R) : PI X tg iter t' := ⟨fun pins s σ H R I q => h.run pins s σ H R I (i σ H R q)⟩

/-! a list or a tuple -/
def iSeq (K : Kt) (tl : TE) : TI := fun σ H R => tl σ H fun x H1 => (∃ a xs, x = .ref a ∧ SqL K H1 a xs ∧ R (Itl K a) H1) ∨ (∃ a xs, x = .ref a ∧ SqT K H1 a xs ∧ R (Itt K a) H1)
theorem pi_seq {X : Cx} {tg l : Expr} {tl : TE} (hl : PE X l tl) : PI X tg l (iSeq (kt X) tl) := by
  refine ⟨fun pins s σ H R I h => ?_⟩
  refine thn (hl.run pins s σ H _ I h) fun v s1 ⟨x, H1, I1, r1, q1⟩ => ?_
  rcases q1 with ⟨a, xs, e, hq, q⟩ | ⟨a, xs, e, hq, q⟩
  · subst e
    cases r1
    obtain ⟨its, rv, p, hz⟩ := I1.list hq
    refine wpAny_pyIter_list p.isList ?_
    refine ⟨s1.heap.objs.size, [s1.heap.objs.size], _, _, H1, rfl, I1.kept (t' := s1.toks) fun b o e => Heap.get?_push_of_some _ e, turn_list a _, ⟨_, Heap.get?_push_size _ rfl, rfl, rfl⟩, fun b hb => ?_, q⟩
    have e : b = s1.heap.objs.size := by simpa using hb
    subst e
    exact I1.fpOk (Nat.le_refl _) (I1.hok.fresh (Nat.le_refl _))
  · subst e
    cases r1
    obtain ⟨its, rv, p, hz⟩ := I1.tuple hq
    refine wpAny_pyIter_tuple (show s1.heap.IsTuple a its.toArray from p) ?_
    refine ⟨s1.heap.objs.size, [s1.heap.objs.size], _, _, H1, rfl, I1.kept (t' := s1.toks) fun b o e => Heap.get?_push_of_some _ e, turn_tuple a _, ⟨_, Heap.get?_push_size _ rfl, rfl, rfl⟩, fun b hb => ?_, q⟩
    have e : b = s1.heap.objs.size := by simpa using hb
    subst e
    exact I1.fpOk (Nat.le_refl _) (I1.hok.fresh (Nat.le_refl _))
section
variable {K : Kt} {c : Bas} {a : Addr} {ds : List D} {vs : List V}
theorem walkD_list (h : SqL K c.F a vs) (hl : vs.length ≤ sizeLine) (r : RpAll K c.F c.ι ds vs) : WalkD K c (Itl K a) ds where
  len := by rw [← r.len]; exact hl
  go := fun i c' S' ad ok hi => walk_list.goes i c'.H (by rw [r.len]; exact hi) (ok.f.seq (ad.same.seq h))
  stop := fun c' S' ad ok => by rw [← r.len]; exact walk_list.stops c'.H (ok.f.seq (ad.same.seq h))
  yld := fun i c' S' x H' ad ok hi y => by
    obtain ⟨e1, e2⟩ := walk_list.yields i c'.H x H' (by rw [r.len]; exact hi) (ok.f.seq (ad.same.seq h)) y
    subst e1
    obtain ⟨d, e3, r3⟩ := r.get' e2
    exact ⟨d, c'.F, e3, Step.refl c', ok, ad.rp r3⟩
theorem walkD_tup (h : SqT K c.F a vs) (hl : vs.length ≤ sizeLine) (r : RpAll K c.F c.ι ds vs) : WalkD K c (Itt K a) ds where
  len := by rw [← r.len]; exact hl
  go := fun i c' S' ad ok hi => walk_tup.goes i c'.H (by rw [r.len]; exact hi) (same_t ok.f (same_t ad.same h))
  stop := fun c' S' ad ok => by rw [← r.len]; exact walk_tup.stops c'.H (same_t ok.f (same_t ad.same h))
  yld := fun i c' S' x H' ad ok hi y => by
    obtain ⟨e1, e2⟩ := walk_tup.yields i c'.H x H' (by rw [r.len]; exact hi) (same_t ok.f (same_t ad.same h)) y
    subst e1
    obtain ⟨d, e3, r3⟩ := r.get' e2
    exact ⟨d, c'.F, e3, Step.refl c', ok, ad.rp r3⟩
end
def seqD : D → Option (List D)
  | .lst ds => some ds
  | .tup ds => some ds
  | _ => none
def iD (f : EE) : EL := fun env S => (f env S).bind fun d S => match seqD d with
  | some ds => .ok ds S
  | none => .stuck
section
variable {X : Cx} {K : Kt} {B : Bg} {tg e e2 : Expr} {f g : EE} {pos : Pos}
theorem i_seq (hK : kt X = K) (h : PE X e (tD K B f)) : PI X tg e (tI K B (iD f)) := by
  subst hK
  refine (pi_seq h).imp fun σ H R ⟨F, ι, S, env, st, z0⟩ => ?_
  refine ⟨F, ι, S, env, st, Post.bind_imp z0 fun d S1 z1 v c1 s1 o1 r1 => ?_⟩
  obtain ⟨ds, S', e, q⟩ := Post.nr z1 (by intro x0 S0 zz; first | (cases zz; done) | (split at zz <;> first | (cases zz; done) | (split at zz <;> first | (cases zz; done) | (split at zz <;> first | (cases zz; done) | (split at zz <;> cases zz))))); clear z0 z1
  cases d with
  | lst xs =>
    cases e
    obtain ⟨a, vs, ev, h1, hl, h2⟩ := r1
    exact .inl ⟨a, vs, ev, o1.f.seq h1, q _ c1 s1 o1 (walkD_list h1 hl h2)⟩
  | tup xs =>
    cases e
    obtain ⟨a, vs, ev, h1, hl, h2⟩ := r1
    exact .inr ⟨a, vs, ev, same_t o1.f h1, q _ c1 s1 o1 (walkD_tup h1 hl h2)⟩
  | non => cases e
  | bl b => cases e
  | int b => cases e
  | str b => cases e
  | mu b => cases e
  | ty b => cases e
  | dct ks xs => cases e
  | exn c ns xs => cases e
  | obj c ns xs => cases e
/-! ranges -/
def rangeD (lo : Int) (n : Nat) : List D := (List.range n).map fun (i : Nat) => D.int (lo + (i : Int))
theorem rangeD_len (lo : Int) (n : Nat) : (rangeD lo n).length = n := by unfold rangeD; rw [List.length_map, List.length_range]
theorem rangeD_get {lo : Int} {n i : Nat} (h : i < n) : (rangeD lo n)[i]? = some (.int (lo + (i : Int))) := by
  unfold rangeD
  rw [List.getElem?_map, List.getElem?_range h]
  rfl
def iRg1 (f : EE) : EL := fun env S => (f env S).bind fun d S => match d with
  | .int j => if -1000000 ≤ j ∧ j ≤ 1000000 then .ok (rangeD 0 j.toNat) S else .stuck
  | _ => .stuck
def iRg2 (f g : EE) : EL := fun env S => (f env S).bind fun d S => (g env S).bind fun e S => match d, e with
  | .int i, .int j => if (-1000000 ≤ i ∧ i ≤ 1000000) ∧ -1000000 ≤ j ∧ j ≤ 1000000 then .ok (rangeD i (j - i).toNat) S else .stuck
  | _, _ => .stuck
theorem walkD_range {c : Bas} {lo : Int} {n : Nat} (hn : n ≤ 10000000) : WalkD K c (Itr lo n) (rangeD lo n) where
  len := by rw [rangeD_len]; exact Nat.le_trans hn (by decide)
  go := fun i c' S' ad ok hi => by rw [rangeD_len] at hi; exact hi
  stop := fun c' S' ad ok => by rw [rangeD_len]; exact Nat.le_refl n
  yld := fun i c' S' x H' ad ok hi y => by
    obtain ⟨e1, e2⟩ := y
    subst e1 e2
    rw [rangeD_len] at hi
    exact ⟨_, c'.F, rangeD_get hi, Step.refl c', ok, rfl⟩
theorem i_range1 {p : Pos} (hg : Gl X "range") (hm : X.mg "range" = none) (h : PE X e (tD K B f)) (hs : starEach [e] X.env = [(false, eval e X.env)] := by rfl) : PI X tg (.Call (.Name "range" p) [e] [] pos) (tI K B (iRg1 f)) :=
  (pi_range1 hg hm (pa_cons h pa_nil (hs := hs)) hs).imp fun σ H R ⟨F, ι, S, env, st, z0⟩ => by
    refine ⟨F, ι, S, env, st, Post.bind_imp z0 fun d S1 z1 v c1 s1 o1 r1 => ?_⟩
    obtain ⟨ds, S', e, q⟩ := Post.nr z1 (by intro x0 S0 zz; first | (cases zz; done) | (split at zz <;> first | (cases zz; done) | (split at zz <;> first | (cases zz; done) | (split at zz <;> first | (cases zz; done) | (split at zz <;> cases zz))))); clear z0 z1
    cases d with
    | int j =>
      have e' : (if -1000000 ≤ j ∧ j ≤ 1000000 then Res.ok (rangeD 0 j.toNat) S1 else .stuck) = .ok ds S' := e
      split at e'
      · rename_i hj
        cases e'
        exact ⟨j, by rw [show v = V.int j from r1], by omega, by omega, q _ c1 s1 o1 (walkD_range (by omega))⟩
      · cases e'
    | lst b => cases e
    | tup b => cases e
    | non => cases e
    | bl b => cases e
    | str b => cases e
    | mu b => cases e
    | ty b => cases e
    | dct ks xs => cases e
    | exn c ns xs => cases e
    | obj c ns xs => cases e
theorem i_range2 {p : Pos} (hg : Gl X "range") (hm : X.mg "range" = none) (h : PE X e (tD K B f)) (h2 : PE X e2 (tD K B g)) (hs : starEach [e, e2] X.env = [(false, eval e X.env), (false, eval e2 X.env)] := by rfl) (hs2 : starEach [e2] X.env = [(false, eval e2 X.env)] := by rfl) :
    PI X tg (.Call (.Name "range" p) [e, e2] [] pos) (tI K B (iRg2 f g)) :=
  (pi_range2 hg hm (pa_cons h (pa_cons h2 pa_nil (hs := hs2)) (hs := by rw [hs, hs2])) hs hs2).imp fun σ H R ⟨F, ι, S, env, st, z0⟩ => by
    refine ⟨F, ι, S, env, st, Post.bind_imp z0 fun d S1 z1 v c1 s1 o1 r1 => ?_⟩
    refine ⟨c1.F, c1.ι, S1, env, st.step s1 o1, Post.bind_imp z1 fun d2 S2 z2 v2 c2 s2 o2 r2 => ?_⟩
    obtain ⟨ds, S', e, q⟩ := Post.nr z2 (by intro x0 S0 zz; first | (cases zz; done) | (split at zz <;> first | (cases zz; done) | (split at zz <;> first | (cases zz; done) | (split at zz <;> first | (cases zz; done) | (split at zz <;> cases zz))))); clear z0 z1 z2
    split at e
    · rename_i i j
      split at e
      · rename_i hj
        cases e
        exact ⟨i, j, by rw [show v = V.int i from r1, show v2 = V.int j from r2], by omega, q _ c2 (s1.trans s2) o2 (walkD_range (by omega))⟩
      · cases e
    · cases e
end

/-! ### for -/
def forGo (g : GE) (b : SS) : List D → SS
  | [] => fun env S => .ok (.nx env) S
  | d :: ds => fun env S => match g d env with
    | none => .stuck
    | some env1 => (b env1 S).bind fun o S => match o with
      | .nx env2 => forGo g b ds env2 S
      | .ct env2 => forGo g b ds env2 S
      | .bk env2 => .ok (.nx env2) S
      | .rt d => .ok (.rt d) S
      | .rs x env2 => .ok (.rs x env2) S
def sFor (it : EL) (g : GE) (b : SS) : SS := fun env S => (it env S).bindS env fun ds S => forGo g b ds env S
section
variable {X : Cx} {K : Kt} {B : Bg} {pos : Pos} {iter tg : Expr} {body : List Stmt} {it : EL} {g : GE} {ts : List Nat} {b : SS}
theorem s_for (hp : PassesOwn (model X.prog X.w) X.A X.env X.xe) (hc : X.calm = true) (hi : PI X tg iter (tI K B it)) (hg : PG X tg (tG K B g ts)) (hb : PSs X body (tK K B b))
    (hs : ∀ x, foldedSetIterable iter X.env x = pure x := by intro _; rfl) : PS X (.For tg iter body [] pos) (tK K B (sFor it g b)) := (ps_for hp hc hi hg hb hs).imp fun E σ H ⟨F, ι, S, env, st, o, S', e, q⟩ => by
  refine ⟨F, ι, S, env, st, (bindS_post e q).imp fun ds S1 e J c1 s1 o1 wk => ?_⟩
  refine ⟨fun i m σ H => m = ds.length - i ∧ i ≤ ds.length ∧ ∃ F ι Si envi, Stt K B ⟨F, ι, H⟩ Si σ envi ∧ Adv c1 ⟨F, ι, H⟩ ∧ forGo g b (ds.drop i) envi Si = .ok o S' ∧ outK K B ⟨F, ι, H⟩ S' E o,
    ⟨ds.length, by omega, Nat.zero_le _, c1.F, c1.ι, S1, env, st.step s1 o1, Adv.refl c1, e, outK.adv s1.adv q⟩, fun i m σ2 H2 w => ?_⟩
  obtain ⟨rfl, hi, F2, ι2, S2, env2, st2, ad2, e2, q2⟩ := w
  by_cases hlt : i < ds.length
  · refine .inr ⟨wk.go i ⟨F2, ι2, H2⟩ S2 ad2 st2.ok hlt, ?_⟩
    have hd : ds.drop i = ds[i] :: ds.drop (i + 1) := List.drop_eq_getElem_cons hlt
    rw [hd] at e2
    refine ⟨fun σ' H' => i + 1 ≤ ds.length ∧ ∃ F ι Si envi, Stt K B ⟨F, ι, H'⟩ Si σ' envi ∧ Adv c1 ⟨F, ι, H'⟩ ∧ forGo g b (ds.drop (i + 1)) envi Si = .ok o S' ∧ outK K B ⟨F, ι, H'⟩ S' E o, fun σ' H' n => ⟨ds.length - (i + 1), by omega, rfl, n⟩, fun x H' y => ?_⟩
    obtain ⟨d, F3, hd3, s3, o3, r3⟩ := wk.yld i ⟨F2, ι2, H2⟩ S2 x H' ad2 st2.ok hlt y
    have hdi : ds[i] = d := by
      rw [List.getElem?_eq_getElem hlt] at hd3
      exact Option.some.inj hd3
    rw [hdi] at e2
    have e2' : (match g d env2 with
      | none => Res.stuck
      | some env1 => (b env1 S2).bind fun o S => match o with
        | .nx env2 => forGo g b (ds.drop (i + 1)) env2 S
        | .ct env2 => forGo g b (ds.drop (i + 1)) env2 S
        | .bk env2 => .ok (.nx env2) S
        | .rt d => .ok (.rt d) S
        | .rs x env2 => .ok (.rs x env2) S) = .ok o S' := e2
    split at e2'
    · cases e2'
    · rename_i env3 hg3
      refine ⟨F3, ι2, S2, env2, d, env3, st2.step s3 o3, r3, hg3, fun σ4 st4 _ _ => ?_⟩
      obtain ⟨o5, S5, e5, e6⟩ := Res.bind_ok e2'
      refine ⟨F3, ι2, S2, env3, st4, o5, S5, e5, ?_⟩
      have ad3 : Adv c1 ⟨F3, ι2, H'⟩ := ad2.trans s3.adv
      have q3 : outK K B ⟨F3, ι2, H'⟩ S' E o := outK.adv s3.adv q2
      cases o5 with
      | nx env5 => exact fun σ6 c6 st6 s6 => ⟨hlt, c6.F, c6.ι, S5, env5, st6, ad3.trans s6, e6, outK.adv s6 q3⟩
      | ct env5 => exact fun σ6 c6 st6 s6 => ⟨hlt, c6.F, c6.ι, S5, env5, st6, ad3.trans s6, e6, outK.adv s6 q3⟩
      | bk env5 => cases e6; exact q3
      | rt d5 => cases e6; exact q3
      | rs x5 d5 => cases e6; exact q3
  · have hi' : i = ds.length := by omega
    subst hi'
    rw [List.drop_length] at e2
    cases e2
    exact .inl ⟨wk.stop ⟨F2, ι2, H2⟩ _ ad2 st2.ok, q2 σ2 ⟨F2, ι2, H2⟩ st2 (Adv.refl _)⟩
end

/-! ### comprehensions -/
def compGo (g : GE) (p : ET) (f : EE) (env0 : Env) : List D → Sto → Res (List D)
  | [], S => .ok [] S
  | d :: ds, S => match g d env0 with
    | none => .stuck
    | some env => (p env S).noex.bind fun k S => if k = true then (f env S).noex.bind fun y S => (compGo g p f env0 ds S).bind fun ys S => .ok (y :: ys) S else compGo g p f env0 ds S
theorem compGo_nr {g : GE} {p : ET} {f : EE} {env0 : Env} : ∀ (ds : List D) (S : Sto) (x : Exn) (S' : Sto), compGo g p f env0 ds S ≠ .ex x S'
  | [], S, x, S', z => by cases z
  | d :: ds, S, x, S', z => by
    have z' : (match g d env0 with
      | none => Res.stuck
      | some env => (p env S).noex.bind fun k S => if k = true then (f env S).noex.bind fun y S => (compGo g p f env0 ds S).bind fun ys S => .ok (y :: ys) S else compGo g p f env0 ds S) = .ex x S' := z
    split at z'
    · cases z'
    · rename_i env _
      cases h : (p env S).noex with
      | ex a b => cases hp : p env S <;> rw [hp] at h <;> cases h
      | stuck => rw [h] at z'; cases z'
      | ok k S1 =>
        rw [h] at z'
        replace z' : (if k = true then (f env S1).noex.bind fun y S => (compGo g p f env0 ds S).bind fun ys S => .ok (y :: ys) S else compGo g p f env0 ds S1) = .ex x S' := z'
        split at z'
        · cases h2 : (f env S1).noex with
          | ex a b => cases hp : f env S1 <;> rw [hp] at h2 <;> cases h2
          | stuck => rw [h2] at z'; cases z'
          | ok y S2 =>
            rw [h2] at z'
            replace z' : ((compGo g p f env0 ds S2).bind fun ys S => .ok (y :: ys) S) = .ex x S' := z'
            cases h3 : compGo g p f env0 ds S2 with
            | ex a b => exact compGo_nr ds S2 a b h3
            | stuck => rw [h3] at z'; cases z'
            | ok a b => rw [h3] at z'; cases z'
        · exact compGo_nr ds S1 x S' z'
theorem Res.noex_bind_ok {α β : Type} {r : Res α} {f : α → Sto → Res β} {b : β} {S' : Sto} (h : r.noex.bind f = .ok b S') : ∃ a S, r = .ok a S ∧ f a S = .ok b S' := by
  cases r with
  | ok a S => exact ⟨a, S, rfl, h⟩
  | ex x S => cases h
  | stuck => cases h
def eComp (it : EL) (g : GE) (p : ET) (f : EE) (vs : List Nat) : EL := fun env S => (it env S).bind fun ds S => compGo g p f (wipeE env vs) ds S
def eYes : ET := fun _ S => .ok true S
theorem Stt.wipe {K : Kt} {B : Bg} {c : Bas} {S : Sto} {σ : St} {env : Env} (st : Stt K B c S σ env) (vs : List Nat) : Stt K B c S (L2.wipe σ vs) (wipeE env vs) := ⟨st.ok, st.env.wipe vs, st.st⟩
/-- one clause: the reading -/
theorem lc_of {K : Kt} {B : Bg} {it : EL} {g : GE} {ts vs : List Nat} {p : ET} {f : EE} (hts : ∀ t ∈ ts, t ∈ vs) {σ : St} {H : Hp} {Q : VK} (h : tN K B (eComp it g p f vs) σ H Q) :
    tLc (tI K B it) (tG K B g ts) (tT K B p) (tD K B f) vs σ H Q := by
  obtain ⟨F, ι, S, env, st, z0⟩ := h
  refine ⟨F, ι, S, env, st, Post.bind_imp z0 fun ds S1 z1 J c1 s1 o1 wk => fun L hL => ?_⟩
  obtain ⟨ys, S', e, k⟩ := Post.nr z1 (compGo_nr _ _)
  have nH : H L = none := by
    cases q : H L with
    | none => rfl
    | some o => exact absurd hL (s1.dom L (by show H L ≠ none; rw [q]; exact fun z => by cases z))
  obtain ⟨sn, on, L', vs0, eL, _, hL2, _, _, hF0, hι0⟩ := new_lst (ds := []) (vs := []) o1 hL (Nat.zero_le _) rfl
  cases eL
  refine ⟨fun i m H2 => m = ds.length - i ∧ i ≤ ds.length ∧ ∃ F2 ι2 S2 acc av, Step c1 ⟨F2, ι2, H2⟩ ∧ Sok K ⟨F2, ι2, H2⟩ S2 ∧ LAt ⟨F2, ι2, H2⟩ L (.lst av) ∧ av.length ≤ i ∧ RpAll K F2 ι2 acc av ∧
    ∃ zs, compGo g p f (wipeE env vs) (ds.drop i) S2 = .ok zs S' ∧ acc ++ zs = ys, ⟨ds.length, by omega, Nat.zero_le _, c1.F, c1.ι, S1, [], [], sn, on, ⟨upd_same, hF0, hι0⟩, Nat.le_refl _, rfl, ys, e, rfl⟩, fun i m H2 w => ?_⟩
  obtain ⟨rfl, hi, F2, ι2, S2, acc, av, s2, o2, la, hav, ra, zs, e2, e3⟩ := w
  by_cases hlt : i < ds.length
  · refine .inr ⟨wk.go i ⟨F2, ι2, H2⟩ S2 s2.adv o2 hlt, ?_⟩
    have hd : ds.drop i = ds[i] :: ds.drop (i + 1) := List.drop_eq_getElem_cons hlt
    rw [hd] at e2
    refine ⟨fun H' => i + 1 ≤ ds.length ∧ ∃ F2 ι2 S2 acc av, Step c1 ⟨F2, ι2, H'⟩ ∧ Sok K ⟨F2, ι2, H'⟩ S2 ∧ LAt ⟨F2, ι2, H'⟩ L (.lst av) ∧ av.length ≤ i + 1 ∧ RpAll K F2 ι2 acc av ∧
      ∃ zs, compGo g p f (wipeE env vs) (ds.drop (i + 1)) S2 = .ok zs S' ∧ acc ++ zs = ys, fun H' n => ⟨ds.length - (i + 1), by omega, rfl, n⟩, fun x H' y => ?_⟩
    obtain ⟨d, F3, hd3, s3, o3, r3⟩ := wk.yld i ⟨F2, ι2, H2⟩ S2 x H' s2.adv o2 hlt y
    have hdi : ds[i] = d := by
      rw [List.getElem?_eq_getElem hlt] at hd3
      exact Option.some.inj hd3
    rw [hdi] at e2
    have e2' : (match g d (wipeE env vs) with
      | none => Res.stuck
      | some env => (p env S2).noex.bind fun k S => if k = true then (f env S).noex.bind fun y S => (compGo g p f (wipeE _ vs) (ds.drop (i + 1)) S).bind fun ys S => .ok (y :: ys) S else compGo g p f (wipeE _ vs) (ds.drop (i + 1)) S) = .ok zs S' := e2
    split at e2'
    · cases e2'
    · rename_i env3 hg3
      have st3 : Stt K B ⟨F3, ι2, H'⟩ S2 (wipe σ vs) (wipeE env vs) := ((st.step s1 o1).step (s2.trans s3) o3).wipe vs
      refine ⟨F3, ι2, S2, _, d, env3, st3, r3, hg3, fun σ4 st4 hl4 hf4 => ?_⟩
      have hw : wipe σ4 vs = wipe σ vs := by
        rw [← wipe_idem (σ := σ)]
        exact wipe_eq hl4 fun j hj => hf4 j fun z => hj (hts j z)
      refine ⟨hw, ?_⟩
      obtain ⟨k5, S5, e5, e6⟩ := Res.noex_bind_ok e2'
      refine ⟨F3, ι2, S2, env3, st4, Post.of_ok e5 fun c5 s5 o5 => ?_⟩
      have sc5 : Step c1 c5 := (s2.trans s3).trans s5
      have la5 : LAt c5 L (.lst av) := la.step (s3.trans s5)
      cases k5 with
      | true =>
        rw [if_pos rfl] at e6
        obtain ⟨y6, S6, e7, e8⟩ := Res.noex_bind_ok e6
        obtain ⟨ys7, S7, e9, e10⟩ := Res.bind_ok e8
        cases e10
        refine iteT ⟨c5.F, c5.ι, S5, env3, st4.step s5 o5, Post.of_ok e7 fun v6 c6 s6 o6 r6 => ?_⟩
        have la6 : LAt c6 L (.lst av) := la5.step s6
        refine ⟨av, la6.1, Nat.lt_of_le_of_lt hav (Nat.lt_of_lt_of_le hlt wk.len), hlt, c6.F, c6.ι, S6, acc ++ [y6], av ++ [v6], (sc5.trans s6).upd_new hL la6.1 pln_lst, o6.upd la6.2.1 la6.2.2, ⟨upd_same, la6.2⟩, by rw [List.length_append]; exact Nat.succ_le_succ hav, ?_, ys7, e9, by rw [← e3]; simp⟩
        exact (s6.rpAll (s5.rpAll (s3.rpAll ra))).snoc r6
      | false =>
        rw [if_neg Bool.false_ne_true] at e6
        exact iteF ⟨hlt, c5.F, c5.ι, S5, acc, av, sc5, o5, la5, Nat.le_succ_of_le hav, s5.rpAll (s3.rpAll ra), zs, e6, e3⟩
  · have hi' : i = ds.length := by omega
    subst hi'
    rw [List.drop_length] at e2
    cases e2
    rw [List.append_nil] at e3
    subst e3
    exact .inl ⟨wk.stop ⟨F2, ι2, H2⟩ _ s2.adv o2, k _ ⟨F2, ι2, H2⟩ (s1.trans s2) o2 ⟨L, av, rfl, nH, la.1, Nat.le_trans hav wk.len, ra, la.2.1, la.2.2⟩⟩
section
variable {X : Cx} {K : Kt} {B : Bg}
theorem ts_nil : PTs X [] (tT K B eYes) := ⟨fun pins s σ H Q I ⟨F, ι, S, env, st, z0⟩ => by
  obtain ⟨b, S', e, q⟩ := Post.nr z0 (by intro x0 S0 zz; first | (cases zz; done) | (split at zz <;> first | (cases zz; done) | (split at zz <;> first | (cases zz; done) | (split at zz <;> first | (cases zz; done) | (split at zz <;> cases zz))))); clear z0
  cases e
  exact pts_nil.run pins s σ H Q I (q _ (Step.refl _) st.ok)⟩
theorem ts_one {c : Expr} {p : ET} (h : PT X c (tT K B p)) : PTs X [c] (tT K B p) := pts_one h
variable {elt tg iter : Expr} {ifs : List Expr} {scope : Scope} {own : List (Str × Nat)} {pos : Pos} {it : EL} {g : GE} {ts : List Nat} {p : ET} {f : EE}
theorem n_lc (hc : X.calm = true) (hN : X.N.Nodup) (hi : PI X tg iter (tI K B it)) (ok : BlkOk X.N X.env.scope scope own)
    (hg : ∀ (s : Shared) (H : Hp) (C : Addr) (cl : List (Str × Addr)) (fp : List Addr), PG (X.blk s H scope (compEnvC scope cl C X.env) fp) tg (tG K B g ts)) (ht : ∀ (s : Shared) (H : Hp) (C : Addr) (cl : List (Str × Addr)) (fp : List Addr), PTs (X.blk s H scope (compEnvC scope cl C X.env) fp) ifs (tT K B p))
    (he : ∀ (s : Shared) (H : Hp) (C : Addr) (cl : List (Str × Addr)) (fp : List Addr), PE (X.blk s H scope (compEnvC scope cl C X.env) fp) elt (tD K B f)) (hts : ∀ t ∈ ts, t ∈ own.map (·.2)) (hs : ∀ x, foldedSetIterable iter X.env x = pure x := by intro _; rfl) :
    PE X (.ListComp elt [⟨tg, iter, ifs, 0⟩] scope pos) (tN K B (eComp it g p f (own.map (·.2)))) :=
  (pe_lc hc hN hi ok hg ht he hs).imp fun σ H Q h => lc_of hts h
theorem s_newLc {i : Nat} {y : Str} {py : Pos} {spos : Pos} (hc : X.calm = true) (hN : X.N.Nodup) (hy : X.N[i]? = some y) (hyl : X.env.scope.names.lookup y = some .local)
    (hsw : swapsWith (.ListComp elt [⟨tg, iter, ifs, 0⟩] scope pos) (some (.Name y py)) spos.line X.env = pure true) (hi : PI X tg iter (tI K B it)) (ok : BlkOk X.N X.env.scope scope own)
    (hg : ∀ (s : Shared) (H : Hp) (C : Addr) (cl : List (Str × Addr)) (fp : List Addr), PG (X.blk s H scope (compEnvC scope cl C X.env) fp) tg (tG K B g ts)) (ht : ∀ (s : Shared) (H : Hp) (C : Addr) (cl : List (Str × Addr)) (fp : List Addr), PTs (X.blk s H scope (compEnvC scope cl C X.env) fp) ifs (tT K B p))
    (he : ∀ (s : Shared) (H : Hp) (C : Addr) (cl : List (Str × Addr)) (fp : List Addr), PE (X.blk s H scope (compEnvC scope cl C X.env) fp) elt (tD K B f)) (hts : ∀ t ∈ ts, t ∈ own.map (·.2)) (hs : ∀ x, foldedSetIterable iter X.env x = pure x := by intro _; rfl) :
    PS X (.Assign [.Name y py] (.ListComp elt [⟨tg, iter, ifs, 0⟩] scope pos) spos) (tAsg (tN K B (eComp it g p f (own.map (·.2)))) (gName i)) :=
  (ps_setLc hc hN hy hyl hsw hi ok hg ht he hs).imp fun E σ H h => lc_of (Q := fun x H1 => gName i x σ H1 E.nx) hts h
end

/-! ### defs -/
def spD (K : Kt) (n : Nat) (φ : List D → Sto → Res D) : Sp := fun vs H Q E => vs.length = n ∧ ∃ F ι S ds, Sok K ⟨F, ι, H⟩ S ∧ RpAll K F ι ds vs ∧ Post (φ ds S) (fun d S' => ∀ v c', Step ⟨F, ι, H⟩ c' → Sok K c' S' → Rp K c'.F c'.ι d v → Q v c'.H)
  (fun x S' => ∀ c' cls dx, Step ⟨F, ι, H⟩ c' → Sok K c' S' → ExnAt K c' x cls dx → E cls (some dx) c'.H)
def startE (N : Nat) (ds : List D) : Env := ds.map (fun d => some (.sh d)) ++ List.replicate (N - ds.length) none
def runD (N : Nat) (b : SS) : List D → Sto → Res D := fun ds S => match b (startE N ds) S with
  | .ok (.rt d) S' => .ok d S'
  | .ok (.nx _) S' => .ok .non S'
  | .ok (.rs x _) S' => .ex x S'
  | _ => .stuck
theorem start_ok {K : Kt} {c : Bas} {W : WX} {S : Sto} {N : List Str} {ds : List D} {vs : List V} (ok : Sok K c S) (r : RpAll K c.F c.ι ds vs) : Stt K ⟨c, W⟩ c S (L2.start N vs) (startE N.length ds) := by
  have hl := r.len
  refine ⟨ok, ⟨?_, fun i x e => ?_, fun i j es fs e1 e2 _ => ?_⟩, Step.refl c⟩
  · unfold startE L2.start
    rw [List.length_append, List.length_append, List.length_map, List.length_map, List.length_replicate, List.length_replicate, hl]
  · unfold startE at e
    by_cases hi : i < ds.length
    · rw [List.getElem?_append_left (by rw [List.length_map]; exact hi), List.getElem?_map, List.getElem?_eq_getElem hi] at e
      cases e
      obtain ⟨v, h1, h2⟩ := r.get (List.getElem?_eq_getElem hi)
      refine ⟨v, ?_, h2⟩
      unfold L2.start
      rw [List.getElem?_append_left (by rw [List.length_map, hl]; exact hi), List.getElem?_map, h1]
      rfl
    · rw [List.getElem?_append_right (by rw [List.length_map]; omega), List.getElem?_replicate] at e
      split at e <;> cases e
  · unfold startE at e1
    by_cases hi : i < ds.length
    · rw [List.getElem?_append_left (by rw [List.length_map]; exact hi), List.getElem?_map, List.getElem?_eq_getElem hi] at e1
      cases e1
    · rw [List.getElem?_append_right (by rw [List.length_map]; omega), List.getElem?_replicate] at e1
      split at e1 <;> cases e1
section
variable {P : Program} {w : World} {K : Kt} {mg : Str → Option Value} {base : Heap}
theorem fn_data {x qual : Str} {st : Stmt} {f : Addr} {fd : FuncData} {N ps : List Str} {k : Nat} {b : SS} (F : Fun K x qual st f fd) (S : FnScope N ps (defScope st))
    (hb : ∀ (cdv : Value) (A : Around) (outer : List PySem.Env) (s : Shared) (H : Hp) (E : XK) (B : Bg), B.W = (fun cls d _ H' => E cls d H') → Room k (A.deeper (envOfC qual (defScope st) s.heap.objs.size f cdv)) → Takes (cxOf (L2.CX P w) P w K mg base N qual (defScope st) f cdv A outer s H E) B.W →
      PassesOwn (model P w) (cxOf (L2.CX P w) P w K mg base N qual (defScope st) f cdv A outer s H E).A (cxOf (L2.CX P w) P w K mg base N qual (defScope st) f cdv A outer s H E).env (cxOf (L2.CX P w) P w K mg base N qual (defScope st) f cdv A outer s H E).xe →
      PSs (cxOf (L2.CX P w) P w K mg base N qual (defScope st) f cdv A outer s H E) (defBody st) (tK ⟨K, mg⟩ B b)) : FnOk P w K mg base (L2.CX P w) (k + 1) f fd ps (spD ⟨K, mg⟩ ps.length (runD N.length b)) := by
  refine F.okX S (fun vs H Q E h => h.1) (fun cdv A outer s H vs Q E hr h => ?_)
  obtain ⟨hl, F0, ι, S0, ds, ok, r, z⟩ := h
  refine ⟨_, hb cdv A outer s H E ⟨⟨F0, ι, H⟩, fun cls d _ H' => E cls d H'⟩ rfl hr (takes_of rfl rfl rfl rfl) (passes_of rfl), F0, ι, S0, _, start_ok ok r, ?_⟩
  unfold runD at z
  split at z
  · rename_i d' S'' e1
    exact ⟨_, _, e1, fun v c' s o r => z v c' s o r⟩
  · rename_i env' S'' e1
    exact ⟨_, _, e1, fun σ' c' st ad => z .non c' st.st st.ok rfl⟩
  · rename_i x' env' S'' e1
    exact ⟨_, _, e1, fun σ' c' cls dx st h => z c' cls dx st.st st.ok h⟩
  · exact z.elim
end
def eCall (φ : List D → Sto → Res D) (l : EL) : EE := fun env S => (l env S).bind fun ds S => φ ds S
section
variable {X : Cx} {k n : Nat} {f : Addr} {fd : FuncData} {ps : List Str} {x : Str} {p pos : Pos} {e : Expr} {es : List Expr} {K : Kt} {B : Bg} {φ : List D → Sto → Res D} {l : EL}
theorem RpAll.len' {F : Hp} {ι : List Addr} {ds : List D} {vs : List V} (h : RpAll K F ι ds vs) : ds.length = vs.length := h.len.symm
theorem passAt {X : Cx} {W : WX} (tk : Takes X W) (σ : St) : PassesAt (L2.CX X.prog X.w) X σ (fun cls d H' => W cls d σ H') := fun _ _ _ e s' I c => tk e s' (XE.of_call I (fun _ _ _ h => h) c)
/-- a call: what is raised leaves -/
theorem d_call (tk : Takes X B.W) (F : FnOk X.prog X.w X.K X.mg X.base (L2.CX X.prog X.w) k f fd ps (spD K n φ)) (hr : Room k X.A) (hg : Gl X x) (hm : X.mg x = some (.ref f)) (hk : PySem.W.keepIn X.K (.ref f) = true) (hb : Binds X.K fd ps [])
    (ha : PA X (e :: es) (tA K B l)) (hn : (e :: es).length = n) (hla : ∀ env S ds S', l env S = .ok ds S' → ds.length = (e :: es).length) (hdb : (x == ("__debug__" : Str)) = false := by decide) (he : starEach (e :: es) X.env = (false, eval e X.env) :: starEach es X.env := by rfl) (hpl : (backTo pos (starEach es X.env)).any (·.1) = false := by rfl) :
    PE X (.Call (.Name x p) (e :: es) [] pos) (tD K B (eCall φ l)) := (pe_callSD (E := fun σ cls d H' => B.W cls d σ H') F hr hg hm hk hb .nil (fun σ => passAt tk σ) ha hdb he hpl).imp fun σ H Q ⟨F, ι, S, env, st, z0⟩ => by
  refine ⟨F, ι, S, env, st, Post.bind_impE z0 fun ds S1 e1 z1 vs c1 s1 o1 r1 => ?_⟩
  show spD K n φ (vs ++ []) c1.H Q _
  rw [List.append_nil]
  refine ⟨by rw [r1.len, hla _ _ _ _ e1, hn], c1.F, c1.ι, S1, ds, o1, r1, z1.impE (fun d S' q v c' s o r => q v c' (s1.trans s) o r) fun x S' q c' cls dx s o h => ?_⟩
  exact q c' cls dx (st.step (s1.trans s) o) h
/-- .. that raises nothing, in any place -/
def eCall0 (φ : List D → Sto → Res D) (l : EL) : EE := fun env S => (l env S).bind fun ds S => (φ ds S).noex
theorem pass0X {X : Cx} : Passes (L2.CX X.prog X.w) X (fun _ _ _ => False) := fun _ σ _ _ e s' _ ⟨_, _, _, _, _, _, _, _, _, _, _, _, z⟩ => z.elim
theorem d_call0 (F : FnOk X.prog X.w X.K X.mg X.base (L2.CX X.prog X.w) k f fd ps (spD K n φ)) (hr : Room k X.A) (hg : Gl X x) (hm : X.mg x = some (.ref f)) (hk : PySem.W.keepIn X.K (.ref f) = true) (hb : Binds X.K fd ps [])
    (ha : PA X (e :: es) (tA K B l)) (hn : (e :: es).length = n) (hla : ∀ env S ds S', l env S = .ok ds S' → ds.length = (e :: es).length) (hdb : (x == ("__debug__" : Str)) = false := by decide) (he : starEach (e :: es) X.env = (false, eval e X.env) :: starEach es X.env := by rfl) (hpl : (backTo pos (starEach es X.env)).any (·.1) = false := by rfl) :
    PE X (.Call (.Name x p) (e :: es) [] pos) (tD K B (eCall0 φ l)) := (pe_call (E := fun _ _ _ => False) F hr hg hm hk hb .nil pass0X ha hdb he hpl).imp fun σ H Q ⟨F, ι, S, env, st, z0⟩ => by
  refine ⟨F, ι, S, env, st, Post.bind_impE z0 fun ds S1 e1 z1 vs c1 s1 o1 r1 => ?_⟩
  show spD K n φ (vs ++ []) c1.H Q _
  rw [List.append_nil]
  obtain ⟨d, S', e, q⟩ := Post.noex z1
  exact ⟨by rw [r1.len, hla _ _ _ _ e1, hn], c1.F, c1.ι, S1, ds, o1, r1, Post.of_ok e fun v c' s o r => q v c' (s1.trans s) o r⟩
theorem eNil_len {env : Env} {S S' : Sto} {ds : List D} (h : eNil env S = .ok ds S') : ds.length = 0 := by cases h; rfl
theorem eCons_len {f : EE} {l : EL} {n : Nat} (h : ∀ env S ds S', l env S = .ok ds S' → ds.length = n) : ∀ env S ds S', eCons f l env S = .ok ds S' → ds.length = n + 1 := fun env S ds S' e => by
  obtain ⟨x, S1, e1, e⟩ := Res.bind_ok e
  obtain ⟨xs, S2, e2, e⟩ := Res.bind_ok e
  cases e
  rw [List.length_cons, h _ _ _ _ e2]
end
end DL

/-! E5: built-in functions, slices, + of lists. -/
namespace DL
open PySem PySem.Spec PyProof.Rows L2

abbrev OpA := List D → Sto → Res D
abbrev OpN := List D → Sto → Res (List D)
def CallD (K : Kt) (r : List V → Hp → VK → Prop) (op : OpA) : Prop := ∀ (B : Hp) (c : Bas) (S S' : Sto) (vs : List V) (ds : List D) (d : D), Sok K c S → RbAll K B c ds vs → op ds S = .ok d S' →
  ∀ Q : VK, (∀ v c', Step c c' → Sok K c' S' → Rp K c'.F c'.ι d v → Q v c'.H) → r vs c.H Q
def CallN (K : Kt) (r : List V → Hp → VK → Prop) (op : OpN) : Prop := ∀ (B : Hp) (c : Bas) (S S' : Sto) (vs : List V) (ds : List D) (es : List D), Sok K c S → RbAll K B c ds vs → op ds S = .ok es S' →
  ∀ Q : VK, (∀ v c', Step c c' → Sok K c' S' → NewAt K c c' es v → Q v c'.H) → r vs c.H Q
def eBlt (op : OpA) (l : EL) : EE := fun env S => (l env S).bind fun ds S => (op ds S).noex
def eBltN (op : OpN) (l : EL) : EL := fun env S => (l env S).bind fun ds S => (op ds S).noex
theorem NewAt.from {K : Kt} {a b c : Bas} {ds : List D} {v : V} (s : Step a b) (n : NewAt K b c ds v) : NewAt K a c ds v := by
  obtain ⟨p, vs, e, h1, h2, h3, h4, h5, h6⟩ := n
  refine ⟨p, vs, e, ?_, h2, h3, h4, h5, h6⟩
  cases q : a.H p with
  | none => rfl
  | some o => exact absurd h1 (s.dom p (by rw [q]; exact fun z => by cases z))
section
variable {X : Cx} {K : Kt} {B : Bg} {x : Str} {p pos : Pos} {e : Expr} {es : List Expr} {l : EL} {id T : String} {r : List V → Hp → VK → Prop}
theorem cb_of {op : OpA} (cd : CallD K r op) {σ : St} {H : Hp} {Q : VK} (h : tD K B (eBlt op l) σ H Q) : tCB r (tAB K B l) σ H Q := by
  obtain ⟨F, ι, S, env, st, z0⟩ := h
  refine ⟨F, ι, S, env, st, Post.bind_imp z0 fun ds S1 z1 vs c1 s1 o1 r1 => ?_⟩
  obtain ⟨d, S', e, q⟩ := Post.noex z1; clear z0 z1
  exact cd B.H c1 S1 S' vs ds d o1 r1 e Q fun v c' s o r => q v c' (s1.trans s) o r
theorem cbn_of {op : OpN} (cd : CallN K r op) {σ : St} {H : Hp} {Q : VK} (h : tN K B (eBltN op l) σ H Q) : tCB r (tAB K B l) σ H Q := by
  obtain ⟨F, ι, S, env, st, z0⟩ := h
  refine ⟨F, ι, S, env, st, Post.bind_imp z0 fun ds S1 z1 vs c1 s1 o1 r1 => ?_⟩
  obtain ⟨d, S', e, q⟩ := Post.noex z1; clear z0 z1
  exact cd B.H c1 S1 S' vs ds d o1 r1 e Q fun v c' s o n => q v c' (s1.trans s) o (n.from s1)
theorem d_callB {op : OpA} (hc : CallR X (.builtin id) r) (cd : CallD K r op) (hg : Gl X x) (hm : X.mg x = none) (hv : bootBuiltins x = some (.builtin id)) (ha : PA X (e :: es) (tAB K B l)) (hn : x ≠ "__name__" := by decide) (hdb : (x == ("__debug__" : Str)) = false := by decide)
    (he : starEach (e :: es) X.env = (false, eval e X.env) :: starEach es X.env := by rfl) (hpl : (backTo pos (starEach es X.env)).any (·.1) = false := by rfl) : PE X (.Call (.Name x p) (e :: es) [] pos) (tD K B (eBlt op l)) :=
  (pe_callB hc hg hm hv ha hn hdb he hpl).imp fun _ _ _ h => cb_of cd h
theorem d_callTy {op : OpA} (hc : CallR X (.type T) r) (cd : CallD K r op) (hg : Gl X x) (hm : X.mg x = none) (hv : bootBuiltins x = some (.type T)) (ha : PA X (e :: es) (tAB K B l)) (hn : x ≠ "__name__" := by decide) (hdb : (x == ("__debug__" : Str)) = false := by decide)
    (he : starEach (e :: es) X.env = (false, eval e X.env) :: starEach es X.env := by rfl) (hpl : (backTo pos (starEach es X.env)).any (·.1) = false := by rfl) : PE X (.Call (.Name x p) (e :: es) [] pos) (tD K B (eBlt op l)) :=
  (pe_callTy hc hg hm hv ha hn hdb he hpl).imp fun _ _ _ h => cb_of cd h
theorem n_callB {op : OpN} (hc : CallR X (.builtin id) r) (cd : CallN K r op) (hg : Gl X x) (hm : X.mg x = none) (hv : bootBuiltins x = some (.builtin id)) (ha : PA X (e :: es) (tAB K B l)) (hn : x ≠ "__name__" := by decide) (hdb : (x == ("__debug__" : Str)) = false := by decide)
    (he : starEach (e :: es) X.env = (false, eval e X.env) :: starEach es X.env := by rfl) (hpl : (backTo pos (starEach es X.env)).any (·.1) = false := by rfl) : PE X (.Call (.Name x p) (e :: es) [] pos) (tN K B (eBltN op l)) :=
  (pe_callB hc hg hm hv ha hn hdb he hpl).imp fun _ _ _ h => cbn_of cd h
theorem n_callTy {op : OpN} (hc : CallR X (.type T) r) (cd : CallN K r op) (hg : Gl X x) (hm : X.mg x = none) (hv : bootBuiltins x = some (.type T)) (ha : PA X (e :: es) (tAB K B l)) (hn : x ≠ "__name__" := by decide) (hdb : (x == ("__debug__" : Str)) = false := by decide)
    (he : starEach (e :: es) X.env = (false, eval e X.env) :: starEach es X.env := by rfl) (hpl : (backTo pos (starEach es X.env)).any (·.1) = false := by rfl) : PE X (.Call (.Name x p) (e :: es) [] pos) (tN K B (eBltN op l)) :=
  (pe_callTy hc hg hm hv ha hn hdb he hpl).imp fun _ _ _ h => cbn_of cd h
end

/-! ### len, int, abs, max, min of two -/
def bLen : OpA := fun ds S => match ds with
  | [.lst xs] => .ok (.int xs.length) S
  | [.tup xs] => .ok (.int xs.length) S
  | [.mu n] => (match S[n]? with
    | some xs => .ok (.int xs.length) S
    | none => .stuck)
  | _ => .stuck
def bInt : OpA := fun ds S => match ds with
  | [.int i] => .ok (.int i) S
  | [.bl b] => .ok (.int (if b then 1 else 0)) S
  | _ => .stuck
def bAbs : OpA := fun ds S => match ds with
  | [.int i] => .ok (.int (if i < 0 then -i else i)) S
  | _ => .stuck
def bMax2 : OpA := fun ds S => match ds with
  | [.int i, .int j] => .ok (.int (if j > i then j else i)) S
  | _ => .stuck
def bMin2 : OpA := fun ds S => match ds with
  | [.int i, .int j] => .ok (.int (if j < i then j else i)) S
  | _ => .stuck
theorem RbAll.one {K : Kt} {B : Hp} {c : Bas} {d : D} {vs : List V} (h : RbAll K B c [d] vs) : ∃ v, vs = [v] ∧ Rb K B c d v := by
  obtain ⟨v, r, e, h1, h2⟩ := h
  have h2' : r = [] := h2
  subst h2'
  exact ⟨v, e, h1⟩
theorem RbAll.two {K : Kt} {B : Hp} {c : Bas} {d d' : D} {vs : List V} (h : RbAll K B c [d, d'] vs) : ∃ v w, vs = [v, w] ∧ Rb K B c d v ∧ Rb K B c d' w := by
  obtain ⟨v, r, e, h1, w, r', e', h2, h3⟩ := h
  have h3' : r' = [] := h3
  subst h3' e'
  exact ⟨v, w, e, h1, h2⟩
section
variable {K : Kt}
theorem cd_len : CallD K (fun xs H Q => ∃ p ys, xs = [.ref p] ∧ (SqL K H p ys ∨ SqT K H p ys) ∧ Q (.int ys.length) H) bLen := by
  intro B c S S' vs ds d ok r e Q q
  unfold bLen at e
  split at e
  · cases e
    obtain ⟨v, rfl, h⟩ := r.one
    obtain ⟨a, ws, rfl, h1, _, h2⟩ := h.lst ok
    exact ⟨a, ws, rfl, .inl h1, q _ c (Step.refl c) ok (by show _ = _; rw [h2.len])⟩
  · cases e
    obtain ⟨v, rfl, h⟩ := r.one
    obtain ⟨a, ws, rfl, h1, _, h2⟩ := h.tup ok
    exact ⟨a, ws, rfl, .inr h1, q _ c (Step.refl c) ok (by show _ = _; rw [h2.len])⟩
  · split at e
    · rename_i xs hx
      cases e
      obtain ⟨v, rfl, h⟩ := r.one
      obtain ⟨a, ws, rfl, _, h1, _, h2⟩ := h.mu ok hx
      exact ⟨a, ws, rfl, .inl (SqL.of h1), q _ c (Step.refl c) ok (by show _ = _; rw [h2.len])⟩
    · cases e
  · cases e
theorem cd_int : CallD K (fun xs H Q => (∃ i, xs = [.int i] ∧ Q (.int i) H) ∨ ∃ k, xs = [.bl k] ∧ Q (.int (if k then 1 else 0)) H) bInt := by
  intro B c S S' vs ds d ok r e Q q
  unfold bInt at e
  split at e
  · cases e
    obtain ⟨v, rfl, h⟩ := r.one
    exact .inl ⟨_, by rw [h.int], q _ c (Step.refl c) ok rfl⟩
  · cases e
    obtain ⟨v, rfl, h⟩ := r.one
    exact .inr ⟨_, by rw [h.bl], q _ c (Step.refl c) ok rfl⟩
  · cases e
theorem cd_abs : CallD K (fun xs H Q => ∃ i, xs = [.int i] ∧ Q (.int (if i < 0 then -i else i)) H) bAbs := by
  intro B c S S' vs ds d ok r e Q q
  unfold bAbs at e
  split at e
  · cases e
    obtain ⟨v, rfl, h⟩ := r.one
    exact ⟨_, by rw [h.int], q _ c (Step.refl c) ok rfl⟩
  · cases e
theorem cd_max2 : CallD K (fun xs H Q => ∃ i j, xs = [.int i, .int j] ∧ Q (.int (if j > i then j else i)) H) bMax2 := by
  intro B c S S' vs ds d ok r e Q q
  unfold bMax2 at e
  split at e
  · cases e
    obtain ⟨v, w, rfl, h, h'⟩ := r.two
    exact ⟨_, _, by rw [h.int, h'.int], q _ c (Step.refl c) ok rfl⟩
  · cases e
theorem cd_min2 : CallD K (fun xs H Q => ∃ i j, xs = [.int i, .int j] ∧ Q (.int (if j < i then j else i)) H) bMin2 := by
  intro B c S S' vs ds d ok r e Q q
  unfold bMin2 at e
  split at e
  · cases e
    obtain ⟨v, w, rfl, h, h'⟩ := r.two
    exact ⟨_, _, by rw [h.int, h'.int], q _ c (Step.refl c) ok rfl⟩
  · cases e

/-! ### tuple(x), list(x) -/
def bTuple : OpA := fun ds S => match ds with
  | [.lst xs] => .ok (.tup xs) S
  | [.tup xs] => .ok (.tup xs) S
  | _ => .stuck
def bList : OpN := fun ds S => match ds with
  | [.lst xs] => .ok xs S
  | [.tup xs] => .ok xs S
  | _ => .stuck
theorem cd_tuple : CallD K (fun xs H Q => ∃ p ys, xs = [.ref p] ∧ ((SqL K H p ys ∧ ∀ l, H l = none → Q (.ref l) (upd H l (.tup ys))) ∨ (SqT K H p ys ∧ Q (.ref p) H))) bTuple := by
  intro B c S S' vs ds d ok r e Q q
  unfold bTuple at e
  split at e
  · cases e
    obtain ⟨v, rfl, h⟩ := r.one
    obtain ⟨a, ws, rfl, h1, hl, h2⟩ := h.lst ok
    refine ⟨a, ws, rfl, .inl ⟨h1, fun l hn => ?_⟩⟩
    obtain ⟨s2, o2, r2⟩ := new_tup ok hn hl h2
    exact q _ ⟨_, _, _⟩ s2 o2 r2
  · cases e
    obtain ⟨v, rfl, h⟩ := r.one
    obtain ⟨a, ws, e1, h1, hl, h2⟩ := h.tup ok
    subst e1
    refine ⟨a, ws, rfl, .inr ⟨h1, q _ c (Step.refl c) ok ?_⟩⟩
    rcases h with h | ⟨_, z, _⟩
    · exact h
    · cases z
  · cases e
theorem cn_list : CallN K (fun xs H Q => ∃ p ys, xs = [.ref p] ∧ (SqL K H p ys ∨ SqT K H p ys) ∧ ∀ l, H l = none → Q (.ref l) (upd H l (.lst ys))) bList := by
  intro B c S S' vs ds d ok r e Q q
  unfold bList at e
  split at e
  · cases e
    obtain ⟨v, rfl, h⟩ := r.one
    obtain ⟨a, ws, rfl, h1, hl, h2⟩ := h.lst ok
    refine ⟨a, ws, rfl, .inl h1, fun l hn => ?_⟩
    obtain ⟨s2, o2, n2⟩ := new_lst ok hn hl h2
    exact q _ ⟨_, _, _⟩ s2 o2 n2
  · cases e
    obtain ⟨v, rfl, h⟩ := r.one
    obtain ⟨a, ws, rfl, h1, hl, h2⟩ := h.tup ok
    refine ⟨a, ws, rfl, .inr h1, fun l hn => ?_⟩
    obtain ⟨s2, o2, n2⟩ := new_lst ok hn hl h2
    exact q _ ⟨_, _, _⟩ s2 o2 n2
  · cases e

/-! ### any, all of a list of truth values -/
def allBl : List D → Option (List Bool)
  | [] => some []
  | .bl b :: r => (allBl r).map (b :: ·)
  | _ :: _ => none
theorem allBl_map : ∀ {ds : List D} {bs : List Bool}, allBl ds = some bs → ds = bs.map D.bl
  | [], bs, h => by cases h; rfl
  | .bl b :: r, bs, h => by
    obtain ⟨cs, h1, h2⟩ := Option.map_eq_some_iff.mp (show (allBl r).map (b :: ·) = some bs from h)
    subst h2
    rw [allBl_map h1]
    rfl
  | .non :: _, _, h => by cases h
  | .int _ :: _, _, h => by cases h
  | .str _ :: _, _, h => by cases h
  | .lst _ :: _, _, h => by cases h
  | .tup _ :: _, _, h => by cases h
  | .mu _ :: _, _, h => by cases h
  | .ty _ :: _, _, h => by cases h
  | .dct _ _ :: _, _, h => by cases h
theorem allBl_of : ∀ bs : List Bool, allBl (bs.map D.bl) = some bs
  | [] => rfl
  | b :: r => by show (allBl (r.map D.bl)).map (b :: ·) = _; rw [allBl_of r]; rfl
theorem RpAll.bls {F : Hp} {ι : List Addr} : ∀ {bs : List Bool} {vs : List V}, RpAll K F ι (bs.map D.bl) vs → vs = bs.map V.bl
  | [], _, h => h
  | b :: r, _, ⟨v, w, e, h1, h2⟩ => by
    have h1' : v = .bl b := h1
    rw [e, h1', RpAll.bls h2]
    rfl
def bAny : OpA := fun ds S => match ds with
  | [.lst xs] => (match allBl xs with
    | some bs => .ok (.bl (bs.any id)) S
    | none => .stuck)
  | _ => .stuck
def bAll : OpA := fun ds S => match ds with
  | [.lst xs] => (match allBl xs with
    | some bs => .ok (.bl (bs.all id)) S
    | none => .stuck)
  | _ => .stuck
theorem cd_any : CallD K (rAny K) bAny := by
  intro B c S S' vs ds d ok r e Q q
  unfold bAny at e
  split at e
  · split at e
    · rename_i bs hb
      cases e
      obtain ⟨v, rfl, h⟩ := r.one
      obtain ⟨a, ws, rfl, h1, hl, h2⟩ := h.lst ok
      have h3 := allBl_map hb
      subst h3
      rw [h2.bls] at h1
      exact ⟨a, bs, rfl, h1, q _ c (Step.refl c) ok rfl⟩
    · cases e
  · cases e
theorem cd_all : CallD K (rAll K) bAll := by
  intro B c S S' vs ds d ok r e Q q
  unfold bAll at e
  split at e
  · split at e
    · rename_i bs hb
      cases e
      obtain ⟨v, rfl, h⟩ := r.one
      obtain ⟨a, ws, rfl, h1, hl, h2⟩ := h.lst ok
      have h3 := allBl_map hb
      subst h3
      rw [h2.bls] at h1
      exact ⟨a, bs, rfl, h1, q _ c (Step.refl c) ok rfl⟩
    · cases e
  · cases e

/-! ### max, min of a list or a tuple of ints; min(.., default=..) -/
def allInt : List D → Option (List Int)
  | [] => some []
  | .int b :: r => (allInt r).map (b :: ·)
  | _ :: _ => none
theorem allInt_map : ∀ {ds : List D} {bs : List Int}, allInt ds = some bs → ds = bs.map D.int
  | [], bs, h => by cases h; rfl
  | .int b :: r, bs, h => by
    obtain ⟨cs, h1, h2⟩ := Option.map_eq_some_iff.mp (show (allInt r).map (b :: ·) = some bs from h)
    subst h2
    rw [allInt_map h1]
    rfl
  | .non :: _, _, h => by cases h
  | .bl _ :: _, _, h => by cases h
  | .str _ :: _, _, h => by cases h
  | .lst _ :: _, _, h => by cases h
  | .tup _ :: _, _, h => by cases h
  | .mu _ :: _, _, h => by cases h
  | .ty _ :: _, _, h => by cases h
  | .dct _ _ :: _, _, h => by cases h
theorem allInt_of : ∀ bs : List Int, allInt (bs.map D.int) = some bs
  | [] => rfl
  | b :: r => by show (allInt (r.map D.int)).map (b :: ·) = _; rw [allInt_of r]; rfl
theorem RpAll.ints {F : Hp} {ι : List Addr} : ∀ {bs : List Int} {vs : List V}, RpAll K F ι (bs.map D.int) vs → vs = bs.map V.int
  | [], _, h => h
  | b :: r, _, ⟨v, w, e, h1, h2⟩ => by
    have h1' : v = .int b := h1
    rw [e, h1', RpAll.ints h2]
    rfl
theorem toPy_ints : ∀ ns : List Int, toPyAll (ns.map D.int) = ns.map PyData.int
  | [] => rfl
  | n :: r => by show toPy (.int n) :: toPyAll (r.map D.int) = _; rw [toPy_ints r]; rfl
def seqAny : D → Option (List D)
  | .lst xs => some xs
  | .tup xs => some xs
  | _ => none
def bMax : OpA := fun ds S => match ds with
  | [x] => (match (seqAny x).bind allInt with
    | some (n :: ns) => .ok (.int (ns.foldl max n)) S
    | _ => .stuck)
  | _ => .stuck
def bMin : OpA := fun ds S => match ds with
  | [x] => (match (seqAny x).bind allInt with
    | some (n :: ns) => .ok (.int (ns.foldl min n)) S
    | _ => .stuck)
  | _ => .stuck
def rSeqI (K : PySem.W.Frag) (g : Int → List Int → Int) : List V → Hp → VK → Prop := fun vs H Q => ∃ (a : Addr) (n : Int) (ns : List Int), vs = [V.ref a] ∧ (SqL K H a ((n :: ns).map V.int) ∨ SqT K H a ((n :: ns).map V.int)) ∧ Q (.int (g n ns)) H
theorem readsAll_ints {h : Heap} : ∀ {its : List Value} {ns : List Int}, Vals (ns.map V.int) its → ReadsAll h its (ns.map PyData.int) []
  | _, [], r => by cases r; exact .nil
  | _, n :: ns, r => by
    cases r with
    | cons r1 r2 =>
      obtain ⟨t, rfl⟩ := r1
      exact .cons (as := []) (bs := []) (Reads.int n t) (readsAll_ints r2)
theorem alike_ints (n : Int) (ns : List Int) : PySem.W.AlikeAll ((n :: ns).map PyData.int) := by
  refine ⟨fun x hx y hy => ?_, fun x hx z => ?_⟩
  · obtain ⟨i, _, rfl⟩ := List.mem_map.mp hx
    obtain ⟨j, _, rfl⟩ := List.mem_map.mp hy
    simp only [PySem.W.alike]
  · obtain ⟨i, _, rfl⟩ := List.mem_map.mp hx
    cases z
theorem depth_ints : ∀ ns : List Int, PyData.depthAll (ns.map PyData.int) = 0
  | [] => rfl
  | n :: r => by
    show max (PyData.depth (.int n)) (PyData.depthAll (r.map PyData.int)) = 0
    rw [depth_ints r]
    rfl
theorem of_reads_int {h : Heap} {v : Value} {i : Int} {bs : List Addr} (r : Reads h v (.int i) bs) : ∃ t, v = .int i t := by
  cases r
  exact ⟨_, rfl⟩
variable {X : Cx}
theorem cr_maxI (hc : X.calm = true) (hu : X.A.units + 64 < cLine) : CallR X (.builtin "max") (rSeqI X.K fun n ns => ns.foldl max n) := by
  intro pins s σ H vs us Q I r h
  obtain ⟨a, n, ns, rfl, hs, q⟩ := h
  rw [Vals.ref1 r]
  rcases hs with hs | hs
  · obtain ⟨its, rv, hl, _⟩ := I.list hs
    refine PySem.W.max_list_data (I.ok.hd hc) hl.isList (x := .int n) (xs := ns.map .int) (as := []) (readsAll_ints rv) (alike_ints n ns) (by rw [show (PyData.int n :: ns.map PyData.int) = (n :: ns).map PyData.int from rfl, depth_ints]; omega) fun i v h' tk bs hv hr hk => ?_
    rw [PySem.W.maxD_ints] at hr
    obtain ⟨t, rfl⟩ := of_reads_int hr
    exact ⟨.int _, H, I.kept hk, ⟨t, rfl⟩, q⟩
  · obtain ⟨its, rv, hl, _⟩ := I.tuple hs
    refine PySem.W.max_tuple_data (I.ok.hd hc) (show s.heap.IsTuple a its.toArray from hl) (x := .int n) (xs := ns.map .int) (as := []) (readsAll_ints rv) (alike_ints n ns) (by rw [show (PyData.int n :: ns.map PyData.int) = (n :: ns).map PyData.int from rfl, depth_ints]; omega) fun i v h' tk bs hv hr hk => ?_
    rw [PySem.W.maxD_ints] at hr
    obtain ⟨t, rfl⟩ := of_reads_int hr
    exact ⟨.int _, H, I.kept hk, ⟨t, rfl⟩, q⟩
theorem cr_minI (hc : X.calm = true) (hu : X.A.units + 64 < cLine) : CallR X (.builtin "min") (rSeqI X.K fun n ns => ns.foldl min n) := by
  intro pins s σ H vs us Q I r h
  obtain ⟨a, n, ns, rfl, hs, q⟩ := h
  rw [Vals.ref1 r]
  rcases hs with hs | hs
  · obtain ⟨its, rv, hl, _⟩ := I.list hs
    refine PySem.W.min_list_data (I.ok.hd hc) hl.isList (x := .int n) (xs := ns.map .int) (as := []) (readsAll_ints rv) (alike_ints n ns) (by rw [show (PyData.int n :: ns.map PyData.int) = (n :: ns).map PyData.int from rfl, depth_ints]; omega) fun i v h' tk bs hv hr hk => ?_
    rw [PySem.W.minD_ints] at hr
    obtain ⟨t, rfl⟩ := of_reads_int hr
    exact ⟨.int _, H, I.kept hk, ⟨t, rfl⟩, q⟩
  · obtain ⟨its, rv, hl, _⟩ := I.tuple hs
    refine PySem.W.min_tuple_data (I.ok.hd hc) (show s.heap.IsTuple a its.toArray from hl) (x := .int n) (xs := ns.map .int) (as := []) (readsAll_ints rv) (alike_ints n ns) (by rw [show (PyData.int n :: ns.map PyData.int) = (n :: ns).map PyData.int from rfl, depth_ints]; omega) fun i v h' tk bs hv hr hk => ?_
    rw [PySem.W.minD_ints] at hr
    obtain ⟨t, rfl⟩ := of_reads_int hr
    exact ⟨.int _, H, I.kept hk, ⟨t, rfl⟩, q⟩
theorem Rb.ints {B : Hp} {c : Bas} {S : Sto} {x : D} {v : V} {ns : List Int} (ok : Sok K c S) (h : Rb K B c x v) (e : (seqAny x).bind allInt = some ns) : ∃ a, v = .ref a ∧ (SqL K c.H a (ns.map V.int) ∨ SqT K c.H a (ns.map V.int)) := by
  obtain ⟨xs, e1, e2⟩ := Option.bind_eq_some_iff.mp e
  have e3 := allInt_map e2
  subst e3
  cases x with
  | lst ys =>
    cases e1
    obtain ⟨a, ws, ev, h1, hl, h2⟩ := h.lst ok
    exact ⟨a, ev, .inl (by rw [← h2.ints]; exact h1)⟩
  | tup ys =>
    cases e1
    obtain ⟨a, ws, ev, h1, hl, h2⟩ := h.tup ok
    exact ⟨a, ev, .inr (by rw [← h2.ints]; exact h1)⟩
  | non => cases e1
  | bl _ => cases e1
  | int _ => cases e1
  | str _ => cases e1
  | mu _ => cases e1
  | ty _ => cases e1
  | dct ks xs => cases e1
  | exn c ns xs => cases e1
  | obj c ns xs => cases e1
theorem cd_max : CallD K (rSeqI K fun n ns => ns.foldl max n) bMax := by
  intro B c S S' vs ds d ok r e Q q
  unfold bMax at e
  split at e
  · split at e
    · rename_i n ns hb
      cases e
      obtain ⟨v, rfl, h⟩ := r.one
      obtain ⟨a, rfl, h1⟩ := Rb.ints ok h hb
      exact ⟨a, n, ns, rfl, h1, q _ c (Step.refl c) ok rfl⟩
    · cases e
  · cases e
theorem cd_min : CallD K (rSeqI K fun n ns => ns.foldl min n) bMin := by
  intro B c S S' vs ds d ok r e Q q
  unfold bMin at e
  split at e
  · split at e
    · rename_i n ns hb
      cases e
      obtain ⟨v, rfl, h⟩ := r.one
      obtain ⟨a, rfl, h1⟩ := Rb.ints ok h hb
      exact ⟨a, n, ns, rfl, h1, q _ c (Step.refl c) ok rfl⟩
    · cases e
  · cases e

/-! ### sorted: ints, pairs of ints -/
def isPair : D → Option (Int × Int)
  | .tup [.int i, .int j] => some (i, j)
  | _ => none
def allPair : List D → Option (List (Int × Int))
  | [] => some []
  | d :: r => (isPair d).bind fun p => (allPair r).map (p :: ·)
def dPair (p : Int × Int) : D := .tup [.int p.1, .int p.2]
theorem isPair_eq {d : D} {p : Int × Int} (h : isPair d = some p) : d = dPair p := by
  unfold isPair at h
  split at h
  · cases h; rfl
  · cases h
theorem allPair_map : ∀ {ds : List D} {ps : List (Int × Int)}, allPair ds = some ps → ds = ps.map dPair
  | [], ps, h => by cases h; rfl
  | d :: r, ps, h => by
    obtain ⟨p, h1, h2⟩ := Option.bind_eq_some_iff.mp (show (isPair d).bind (fun p => (allPair r).map (p :: ·)) = some ps from h)
    obtain ⟨cs, h3, h4⟩ := Option.map_eq_some_iff.mp h2
    subst h4
    rw [allPair_map h3, isPair_eq h1]
    rfl
theorem allPair_of : ∀ ps : List (Int × Int), allPair (ps.map dPair) = some ps
  | [] => rfl
  | p :: r => by
    show (isPair (dPair p)).bind (fun p => (allPair (r.map dPair)).map (p :: ·)) = _
    rw [allPair_of r]
    rfl
def leP (p q : Int × Int) : Bool := decide (p.1 < q.1 ∨ (p.1 = q.1 ∧ p.2 ≤ q.2))
def bSorted : OpN := fun ds S => match ds with
  | [x] => (match (seqAny x) with
    | some xs => (match allInt xs with
      | some ns => .ok ((ns.mergeSort fun a b => decide (a ≤ b)).map D.int) S
      | none => (match allPair xs with
        | some ps => .ok ((ps.mergeSort leP).map dPair) S
        | none => .stuck))
    | none => .stuck)
  | _ => .stuck
end
end DL

/-! E6: sorted, slices, + of lists, min with default, isinstance. -/
namespace DL
open PySem PySem.Spec PyProof.Rows L2

/-! ### sorted, by data -/
def leY (a b : PyData) : Bool := !PySem.W.dataLt b a
def rSortD (K : PySem.W.Frag) : List V → Hp → VK → Prop := fun vs H Q => ∃ (a : Addr) (ps : List (V × PyData)), vs = [V.ref a] ∧ SqL K H a (ps.map Prod.fst) ∧ (∀ p ∈ ps, Dp K H p.1 p.2) ∧
  PySem.W.AllAlike (ps.map Prod.snd) ∧ PySem.W.Sortable (ps.map Prod.snd) ∧ (∀ p ∈ ps, p.2.depth ≤ 40) ∧
  ∀ l, H l = none → Q (.ref l) (upd H l (.lst ((ps.mergeSort fun p q => leY p.2 q.2).map Prod.fst)))
section
variable {X : Cx}
theorem eachV {its : List Value} : ∀ {ps : List (V × PyData)}, Vals (ps.map Prod.fst) its → PySem.W.EachIs (fun (u : Value) (p : V × PyData) => RelV p.1 u) its ps := by
  intro ps
  induction ps generalizing its with
  | nil => intro r; cases r; exact .nil
  | cons p ps ih => intro r; cases r with | cons r1 r2 => exact .cons r1 (ih r2)
theorem eachR {h : Heap} {its : List Value} : ∀ {ps : List (V × PyData)}, Vals (ps.map Prod.fst) its → (∀ p ∈ ps, ∀ u, RelV p.1 u → ∃ as, Reads h u p.2 as) → PySem.W.EachIs (fun (u : Value) (p : V × PyData) => ∃ as, Reads h u p.2 as) its ps := by
  intro ps
  induction ps generalizing its with
  | nil => intro r _; cases r; exact .nil
  | cons p ps ih => intro r f; cases r with | cons r1 r2 => exact .cons (f p List.mem_cons_self _ r1) (ih r2 fun q hq => f q (List.mem_cons_of_mem _ hq))
theorem valsE {its : List Value} : ∀ {ps : List (V × PyData)}, PySem.W.EachIs (fun (u : Value) (p : V × PyData) => RelV p.1 u) its ps → Vals (ps.map Prod.fst) its := by
  intro ps
  induction ps generalizing its with
  | nil => intro r; cases r; exact .nil
  | cons p ps ih => intro r; cases r with | cons r1 r2 => exact .cons r1 (ih r2)
theorem cr_sortD (hu : X.A.units + 64 < cLine) : CallR X (.builtin "sorted") (rSortD X.K) := by
  intro pins s σ H vs us Q I r h
  obtain ⟨a, ps, rfl, hs, hd, hal, hk, hz, q⟩ := h
  obtain ⟨its, rv, hl, hlen⟩ := I.list hs
  rw [Vals.ref1 r]
  rw [List.length_map] at hlen
  refine PySem.W.sorted_data (R := fun (u : Value) (p : V × PyData) => RelV p.1 u) (bs := ps) (enc := Prod.snd) hl.isList (eachV rv) (eachR rv fun p hp u ru => Dp.reads I p.2 p.1 u (hd p hp) ru) hal hk hlen
    (fun p hp => by have := hz p hp; omega) fun out ho he => ?_
  have rv' := valsE he
  have e : PySem.W.dataLe false (Prod.snd : V × PyData → PyData) = fun p q => leY p.2 q.2 := PySem.W.dataLe_eq false Prod.snd
  rw [e] at rv'
  obtain ⟨ep, he'⟩ := PyProof.Rows.sortedAll_at s.heap its out.toArray
  have hl' : ((ps.mergeSort fun p q => leY p.2 q.2).map Prod.fst).length ≤ sizeLine := by
    rw [List.length_map, List.length_mergeSort]
    exact hlen
  exact ⟨.ref _, upd H (s.heap.objs.size + 1) (.lst ((ps.mergeSort fun p q => leY p.2 q.2).map Prod.fst)), I.laid (t' := s.toks) (fun _ _ => PyProof.Rows.sortedAll_old) (Nat.le_succ _) ⟨hl', out, ep, rv', he'⟩, rfl, q _ (I.hok.fresh (Nat.le_succ _))⟩
end
def leD (a b : D) : Bool := leY (toPy a) (toPy b)
/-- the items that sorted takes: ints, pairs of ints -/
def sortable (xs : List D) : Bool := (allInt xs).isSome || (allPair xs).isSome
def oSorted : OpN := fun ds S => match ds with
  | [.lst xs] => if sortable xs = true then .ok (xs.mergeSort leD) S else .stuck
  | _ => .stuck
section
variable {K : Kt} {F : Hp} {ι : List Addr}
theorem RpAll.zip : ∀ {ds : List D} {vs : List V}, RpAll K F ι ds vs → (vs.zip ds).map Prod.fst = vs ∧ (vs.zip ds).map Prod.snd = ds ∧ ∀ p ∈ vs.zip ds, Rp K F ι p.2 p.1
  | [], _, h => by rw [show _ = [] from h]; exact ⟨rfl, rfl, fun _ h => by cases h⟩
  | d :: ds, _, ⟨v, r, e, h1, h2⟩ => by
    obtain ⟨e1, e2, e3⟩ := RpAll.zip h2
    subst e
    refine ⟨?_, ?_, fun p hp => ?_⟩
    · show v :: (r.zip ds).map Prod.fst = _
      rw [e1]
    · show d :: (r.zip ds).map Prod.snd = _
      rw [e2]
    · rcases List.mem_cons.mp hp with h | h
      · rw [h]; exact h1
      · exact e3 p h
theorem RpAll.of_zip : ∀ {ps : List (V × D)}, (∀ p ∈ ps, Rp K F ι p.2 p.1) → RpAll K F ι (ps.map Prod.snd) (ps.map Prod.fst)
  | [], _ => rfl
  | p :: ps, h => ⟨p.1, ps.map Prod.fst, rfl, h p List.mem_cons_self, RpAll.of_zip fun q hq => h q (List.mem_cons_of_mem _ hq)⟩
theorem sortable_ok {xs : List D} (h : sortable xs = true) : plAll xs = true ∧ PySem.W.AllAlike (toPyAll xs) ∧ PySem.W.Sortable (toPyAll xs) ∧ ∀ d ∈ toPyAll xs, d.depth ≤ 40 := by
  unfold sortable at h
  rw [Bool.or_eq_true] at h
  have mp : ∀ ys : List D, toPyAll ys = ys.map toPy := fun ys => by
    induction ys with
    | nil => rfl
    | cons y ys ih => show toPy y :: toPyAll ys = _; rw [ih]; rfl
  rcases h with h | h
  · obtain ⟨ns, e⟩ := Option.isSome_iff_exists.mp h
    have e' := allInt_map e
    subst e'
    rw [toPy_ints]
    refine ⟨?_, fun d hd d' hd' => ?_, .inr fun d hd => ?_, fun d hd => ?_⟩
    · clear e h
      induction ns with
      | nil => rfl
      | cons n ns ih => show (true && plAll (ns.map D.int)) = true; rw [ih] <;> rfl
    · obtain ⟨i, _, rfl⟩ := List.mem_map.mp hd
      obtain ⟨j, _, rfl⟩ := List.mem_map.mp hd'
      simp only [PySem.W.alike]
    · obtain ⟨i, _, rfl⟩ := List.mem_map.mp hd
      exact ⟨fun z => (by cases z), fun xs z => (by cases z)⟩
    · obtain ⟨i, _, rfl⟩ := List.mem_map.mp hd
      exact Nat.zero_le _
  · obtain ⟨ns, e⟩ := Option.isSome_iff_exists.mp h
    have e' := allPair_map e
    subst e'
    rw [mp, List.map_map]
    refine ⟨?_, fun d hd d' hd' => ?_, .inl fun d hd => ?_, fun d hd => ?_⟩
    · clear e h
      induction ns with
      | nil => rfl
      | cons n ns ih => show (pl (dPair n) && plAll (ns.map dPair)) = true; rw [ih] <;> rfl
    · obtain ⟨i, _, rfl⟩ := List.mem_map.mp hd
      obtain ⟨j, _, rfl⟩ := List.mem_map.mp hd'
      show PySem.W.alike (.tuple [.int _, .int _]) (.tuple [.int _, .int _]) = true
      simp only [PySem.W.alike, PySem.W.alikeAll, Bool.and_self]
    · obtain ⟨i, _, rfl⟩ := List.mem_map.mp hd
      exact ⟨_, _, rfl⟩
    · obtain ⟨i, _, rfl⟩ := List.mem_map.mp hd
      exact (by decide : (1 : Nat) ≤ 40)
theorem plAll_mem : ∀ {xs : List D} {x : D}, plAll xs = true → x ∈ xs → pl x = true
  | y :: ys, x, h, hx => by
    have h' : (pl y && plAll ys) = true := h
    rw [Bool.and_eq_true] at h'
    rcases List.mem_cons.mp hx with e | e
    · rw [e]; exact h'.1
    · exact plAll_mem h'.2 e
theorem toPyAll_map : ∀ ys : List D, toPyAll ys = ys.map toPy
  | [] => rfl
  | y :: ys => by show toPy y :: toPyAll ys = _; rw [toPyAll_map ys]; rfl
theorem cn_sorted : CallN K (rSortD K) oSorted := by
  intro B c S S' vs ds es ok r e Q q
  unfold oSorted at e
  split at e
  · rename_i xs
    split at e
    · rename_i hs
      cases e
      obtain ⟨v, rfl, h⟩ := r.one
      obtain ⟨a, ws, rfl, h1, hl, h2⟩ := h.lst ok
      obtain ⟨z1, z2, z3⟩ := h2.zip
      obtain ⟨k1, k2, k3, k4⟩ := sortable_ok hs
      have em : ((ws.zip xs).map fun p => (p.1, toPy p.2)).map Prod.fst = ws := by
        rw [List.map_map]
        exact z1
      have es : ((ws.zip xs).map fun p => (p.1, toPy p.2)).map Prod.snd = toPyAll xs := by
        rw [List.map_map, toPyAll_map]
        conv => rhs; rw [← z2]
        rw [List.map_map]
        rfl
      refine ⟨a, (ws.zip xs).map fun p => (p.1, toPy p.2), rfl, by rw [em]; exact h1, fun p hp => ?_, by rw [es]; exact k2, by rw [es]; exact k3, fun p hp => ?_, fun l hn => ?_⟩
      · obtain ⟨p', hp', rfl⟩ := List.mem_map.mp hp
        refine Rp.dp ok.f _ _ (plAll_mem k1 ?_) (z3 p' hp')
        have : p'.2 ∈ (ws.zip xs).map Prod.snd := List.mem_map.mpr ⟨p', hp', rfl⟩
        rw [z2] at this
        exact this
      · have : p.2 ∈ ((ws.zip xs).map fun p => (p.1, toPy p.2)).map Prod.snd := List.mem_map.mpr ⟨p, hp, rfl⟩
        rw [es] at this
        exact k4 _ this
      · have e1 : ((ws.zip xs).mergeSort fun p q => leD p.2 q.2).map (fun p => (p.1, toPy p.2)) = ((ws.zip xs).map fun p => (p.1, toPy p.2)).mergeSort fun p q => leY p.2 q.2 :=
          PySem.W.sort_maps (fun p : V × D => (p.1, toPy p.2)) fun _ _ _ _ => rfl
        rw [← e1, List.map_map]
        have e2 : ((ws.zip xs).mergeSort fun p q => leD p.2 q.2).map Prod.snd = xs.mergeSort leD := by
          conv => rhs; rw [← z2]
          exact PySem.W.sort_maps Prod.snd fun _ _ _ _ => rfl
        have r' : RpAll K c.F c.ι (xs.mergeSort leD) (((ws.zip xs).mergeSort fun p q => leD p.2 q.2).map Prod.fst) := by
          rw [← e2]
          exact RpAll.of_zip fun p hp => z3 p (List.mem_mergeSort.mp hp)
        have hl' : (((ws.zip xs).mergeSort fun p q => leD p.2 q.2).map Prod.fst).length ≤ sizeLine := by
          rw [List.length_map, List.length_mergeSort, ← List.length_map (f := Prod.fst), z1]
          exact hl
        obtain ⟨s2, o2, n2⟩ := new_lst ok hn hl' r'
        exact q _ ⟨_, _, _⟩ s2 o2 n2
    · cases e
  · cases e
end

/-! ### slices -/
def cutD (xs : List D) (lo hi : Option Int) : List D := (xs.drop (HT.sIx xs.length 0 lo)).take (HT.sIx xs.length xs.length hi - HT.sIx xs.length 0 lo)
abbrev EO := Env → Sto → Res (Option Int)
def tOI (K : Kt) (B : Bg) (f : EO) : TO := fun σ H Q => ∃ F ι S env, Stt K B ⟨F, ι, H⟩ S σ env ∧ Post (f env S) (fun o S' => ∀ c', Step ⟨F, ι, H⟩ c' → Sok K c' S' → Q o c'.H) (ExK K B σ env)
theorem _root_.L2.PO.imp {X : Cx} {e : Option Expr} {t t' : TO} (h : PO X e t) (i : ∀ σ H Q, t' σ H Q → t σ H Q) : PO X e t' := ⟨fun pins s σ H Q I q => h.run pins s σ H Q I (i σ H Q q)⟩
def oNo : EO := fun _ S => .ok none S
def oSo (f : EE) : EO := fun env S => (f env S).bind fun d S => match d with
  | .int i => .ok (some i) S
  | _ => .stuck
section
variable {X : Cx} {K : Kt} {B : Bg} {e : Expr} {f : EE} {pos p2 : Pos} {lo hi : Option Expr} {u v : EO}
theorem po_no : PO X none (tOI K B oNo) := po_none.imp fun σ H Q ⟨F, ι, S, env, st, z0⟩ => by
  obtain ⟨o, S', e, q⟩ := Post.nr z0 (by intro x0 S0 zz; first | (cases zz; done) | (split at zz <;> first | (cases zz; done) | (split at zz <;> first | (cases zz; done) | (split at zz <;> first | (cases zz; done) | (split at zz <;> cases zz))))); clear z0
  cases e
  exact q _ (Step.refl _) st.ok
theorem po_so (h : PE X e (tD K B f)) : PO X (some e) (tOI K B (oSo f)) := (po_some h).imp fun σ H Q ⟨F, ι, S, env, st, z0⟩ => by
  refine ⟨F, ι, S, env, st, Post.bind_imp z0 fun d S1 z1 v c1 s1 o1 r1 => ?_⟩
  obtain ⟨o, S', e, q⟩ := Post.nr z1 (by intro x0 S0 zz; first | (cases zz; done) | (split at zz <;> first | (cases zz; done) | (split at zz <;> first | (cases zz; done) | (split at zz <;> first | (cases zz; done) | (split at zz <;> cases zz))))); clear z0 z1
  split at e
  · cases e
    exact ⟨_, r1, q c1 s1 o1⟩
  · cases e
/-- xs[lo:hi] of a list: a new list -/
def eSlL (f : EE) (u v : EO) : EL := fun env S => (f env S).bind fun d S => (u env S).bind fun lo S => (v env S).bind fun hi S => match d with
  | .lst xs => .ok (cutD xs lo hi) S
  | _ => .stuck
/-- of a list or a tuple -/
def eSl (f : EE) (u v : EO) : EE := fun env S => (f env S).bind fun d S => (u env S).bind fun lo S => (v env S).bind fun hi S => match d with
  | .lst xs => .ok (.lst (cutD xs lo hi)) S
  | .tup xs => .ok (.tup (cutD xs lo hi)) S
  | _ => .stuck
theorem RpAll.cut {F : Hp} {ι : List Addr} {xs : List D} {vs : List V} (h : RpAll K F ι xs vs) (lo hi : Option Int) : RpAll K F ι (cutD xs lo hi) (cutV vs lo hi) := by
  unfold cutD cutV
  rw [h.len]
  exact (h.drop _).take _
theorem cutD_whole {xs : List D} {lo hi : Option Int} (h : HT.sIx xs.length 0 lo = 0 ∧ HT.sIx xs.length xs.length hi = xs.length) : cutD xs lo hi = xs := by
  unfold cutD
  rw [h.1, h.2, List.drop_zero, Nat.sub_zero, List.take_length]
theorem n_slice (hK : kt X = K) (he : PE X e (tB K B f)) (hl : PO X lo (tOI K B u)) (hu : PO X hi (tOI K B v)) : PE X (.Subscript e (.Slice lo hi none p2) pos) (tN K B (eSlL f u v)) := by
  subst hK
  refine (pe_slice sl_list he hl hu).imp fun σ H Q ⟨F, ι, S, env, st, z0⟩ => ?_
  refine ⟨F, ι, S, env, st, Post.bind_imp z0 fun d S1 z1 v1 c1 s1 o1 r1 => ?_⟩
  refine ⟨c1.F, c1.ι, S1, env, st.step s1 o1, Post.bind_imp z1 fun l S2 z2 c2 s2 o2 => ?_⟩
  refine ⟨c2.F, c2.ι, S2, env, st.step (s1.trans s2) o2, Post.bind_imp z2 fun h S3 z3 c3 s3 o3 => ?_⟩
  obtain ⟨ys, S', e, q⟩ := Post.nr z3 (by intro x0 S0 zz; first | (cases zz; done) | (split at zz <;> first | (cases zz; done) | (split at zz <;> first | (cases zz; done) | (split at zz <;> first | (cases zz; done) | (split at zz <;> cases zz))))); clear z0 z1 z2 z3
  split at e
  · cases e
    obtain ⟨a, vs, rfl, h1, hz, h2⟩ := ((r1.step s2).step s3).lst o3
    refine ⟨a, vs, rfl, h1, fun p hp => ?_⟩
    obtain ⟨s4, o4, n4⟩ := new_lst o3 hp (Nat.le_trans (cutV_length _ _ _) hz) (h2.cut l h)
    exact q _ ⟨_, _, _⟩ (((s1.trans s2).trans s3).trans s4) o4 (n4.from ((s1.trans s2).trans s3))
  · cases e
theorem d_slice (hK : kt X = K) (he : PE X e (tB K B f)) (hl : PO X lo (tOI K B u)) (hu : PO X hi (tOI K B v)) : PE X (.Subscript e (.Slice lo hi none p2) pos) (tD K B (eSl f u v)) := by
  subst hK
  refine (pe_slice (SlR.or sl_list sl_tupA) he hl hu).imp fun σ H Q ⟨F, ι, S, env, st, z0⟩ => ?_
  refine ⟨F, ι, S, env, st, Post.bind_imp z0 fun d S1 z1 v1 c1 s1 o1 r1 => ?_⟩
  refine ⟨c1.F, c1.ι, S1, env, st.step s1 o1, Post.bind_imp z1 fun l S2 z2 c2 s2 o2 => ?_⟩
  refine ⟨c2.F, c2.ι, S2, env, st.step (s1.trans s2) o2, Post.bind_imp z2 fun h S3 z3 c3 s3 o3 => ?_⟩
  obtain ⟨ys, S', e, q⟩ := Post.nr z3 (by intro x0 S0 zz; first | (cases zz; done) | (split at zz <;> first | (cases zz; done) | (split at zz <;> first | (cases zz; done) | (split at zz <;> first | (cases zz; done) | (split at zz <;> cases zz))))); clear z0 z1 z2 z3
  have sm := (s1.trans s2).trans s3
  split at e
  · cases e
    obtain ⟨a, vs, rfl, h1, hz, h2⟩ := ((r1.step s2).step s3).lst o3
    refine .inl ⟨a, vs, rfl, h1, fun p hp => ?_⟩
    obtain ⟨s4, o4, n4⟩ := new_lst o3 hp (Nat.le_trans (cutV_length _ _ _) hz) (h2.cut l h)
    obtain ⟨F', s5, o5, r5⟩ := frz_new s4 o4 n4
    exact q _ ⟨F', _, _⟩ (sm.trans s5) o5 r5
  · cases e
    have r3 := (r1.step s2).step s3
    obtain ⟨a, vs, ev, h1, hz, h2⟩ := r3.tup o3
    subst ev
    refine .inr ⟨a, vs, rfl, h1, fun hw => ?_, fun _ p hp => ?_⟩
    · rw [h2.len] at hw
      rw [cutD_whole hw] at q
      refine q _ c3 sm o3 ?_
      rcases r3 with r3 | ⟨_, z, _⟩
      · exact r3
      · cases z
    · obtain ⟨s4, o4, r4⟩ := new_tup o3 hp (Nat.le_trans (cutV_length _ _ _) hz) (h2.cut l h)
      exact q _ ⟨_, _, _⟩ (sm.trans s4) o4 r4
  · cases e
end

/-! ### list + list, list * int -/
def eCat (f g : EE) : EL := fun env S => (f env S).bind fun x S => (g env S).bind fun y S => match x, y with
  | .lst xs, .lst ys => if xs.length + ys.length ≤ 1000000 then .ok (xs ++ ys) S else .stuck
  | _, _ => .stuck
/-- tracked, not the module's own -/
def TrL (c : Bas) (v : V) : Prop := ∃ a vs, v = .ref a ∧ c.H a = some (.lst vs)
section
variable {X : Cx} {K : Kt} {B : Bg} {a b e : Expr} {f g : EE} {l l' : EL} {pos : Pos}
theorem sizeM' {n : Nat} (h : n ≤ 1000000) : n ≤ sizeLine := Nat.le_trans h (by decide)
/-- a new list, then another one -/
def eCatN (l l' : EL) : EL := fun env S => (l env S).bind fun xs S => (l' env S).bind fun ys S => if xs.length + ys.length ≤ 1000000 then .ok (xs ++ ys) S else .stuck
theorem n_cat (ha : PE X a (tN K B l)) (hb : PE X b (tN K B l')) : PE X (.BinOp a .Add b pos) (tN K B (eCatN l l')) := (pe_op op_cat ha hb).imp fun σ H Q ⟨F, ι, S, env, st, z0⟩ => by
  refine ⟨F, ι, S, env, st, Post.bind_imp z0 fun xs S1 z1 v1 c1 s1 o1 n1 => ?_⟩
  refine ⟨c1.F, c1.ι, S1, env, st.step s1 o1, Post.bind_imp z1 fun zs S2 z2 v2 c2 s2 o2 n2 => ?_⟩
  obtain ⟨ys, S', e, q⟩ := Post.nr z2 (by intro x0 S0 zz; first | (cases zz; done) | (split at zz <;> first | (cases zz; done) | (split at zz <;> first | (cases zz; done) | (split at zz <;> first | (cases zz; done) | (split at zz <;> cases zz))))); clear z0 z1 z2
  split at e
  · rename_i hz
    cases e
    obtain ⟨p1, w1, ev1, a1, b1, d1, r1, f1, g1⟩ := n1
    obtain ⟨p2, w2, ev2, a2, b2, d2, r2, f2, g2⟩ := n2
    have la : LAt c2 p1 (.lst w1) := LAt.step (c := c1) ⟨b1, f1, g1⟩ s2
    have hl : w1.length + w2.length ≤ sizeLine := by rw [r1.len, r2.len]; exact sizeM' hz
    refine ⟨p1, p2, w1, w2, ev1, ev2, la.1, b2, hl, fun p hp => ?_⟩
    obtain ⟨s3, o3, n3⟩ := new_lst o2 hp (by rw [List.length_append]; exact hl) ((s2.rpAll r1).append r2)
    exact q _ ⟨_, _, _⟩ ((s1.trans s2).trans s3) o3 (n3.from (s1.trans s2))
  · cases e
/-- [..] * n -/
def eRepN (l : EL) (g : EE) : EL := fun env S => (l env S).bind fun xs S => (g env S).bind fun y S => match y with
  | .int k => if (-1000000 ≤ k ∧ k ≤ 1000000) ∧ xs.length * k.toNat ≤ 1000000 then .ok (List.replicate k.toNat xs).flatten S else .stuck
  | _ => .stuck
theorem RpAll.rep {F : Hp} {ι : List Addr} {xs : List D} {vs : List V} (h : RpAll K F ι xs vs) : ∀ n : Nat, RpAll K F ι (List.replicate n xs).flatten (List.replicate n vs).flatten
  | 0 => rfl
  | n + 1 => by
    rw [List.replicate_succ, List.replicate_succ, List.flatten_cons, List.flatten_cons]
    exact h.append (RpAll.rep h n)
theorem n_rep (ha : PE X a (tN K B l)) (hb : PE X b (tD K B g)) : PE X (.BinOp a .Mult b pos) (tN K B (eRepN l g)) := (pe_op op_rep ha hb).imp fun σ H Q ⟨F, ι, S, env, st, z0⟩ => by
  refine ⟨F, ι, S, env, st, Post.bind_imp z0 fun xs S1 z1 v1 c1 s1 o1 n1 => ?_⟩
  refine ⟨c1.F, c1.ι, S1, env, st.step s1 o1, Post.bind_imp z1 fun y S2 z2 v2 c2 s2 o2 r2 => ?_⟩
  obtain ⟨ys, S', e, q⟩ := Post.nr z2 (by intro x0 S0 zz; first | (cases zz; done) | (split at zz <;> first | (cases zz; done) | (split at zz <;> first | (cases zz; done) | (split at zz <;> first | (cases zz; done) | (split at zz <;> cases zz))))); clear z0 z1 z2
  split at e
  · rename_i k
    split at e
    · rename_i hz
      cases e
      obtain ⟨p1, w1, ev1, a1, b1, d1, r1, f1, g1⟩ := n1
      have la : LAt c2 p1 (.lst w1) := LAt.step (c := c1) ⟨b1, f1, g1⟩ s2
      have hl : w1.length * k.toNat ≤ sizeLine := by rw [r1.len]; exact sizeM' hz.2
      refine ⟨p1, k, w1, ev1, r2, la.1, by omega, by omega, hl, fun p hp => ?_⟩
      have hl2 : (List.replicate k.toNat w1).flatten.length ≤ sizeLine := by
        rw [List.length_flatten, List.map_replicate, List.sum_replicate_nat, Nat.mul_comm]
        exact hl
      obtain ⟨s3, o3, n3⟩ := new_lst o2 hp hl2 ((s2.rpAll r1).rep k.toNat)
      exact q _ ⟨_, _, _⟩ ((s1.trans s2).trans s3) o3 (n3.from (s1.trans s2))
    · cases e
  · cases e
end
end DL

/-! E7: list(enumerate(x)), list(zip(x, y)): low. -/
namespace DL
open PySem PySem.W PySem.Calls PyProof.Rows PyProof.V PySem.Spec
open Sem (wp)

abbrev tupO (x y : Value) : Obj := { cls := .type "tuple", data := .seq #[x, y] }
/-- an iterator that gives new pairs, each of which is kept by whoever asked -/
structure LSrc (prog : Program) (w : World) (I S : Addr) (T : String) (wr : List Addr) (n : Nat) (P : Nat → Value → Value → Prop) (St : Nat → Heap → Prop) : Prop where
  frame : ∀ i h h', St i h → (∀ b o, b ≠ S → h.get? b = some o → h'.get? b = some o) → St i h'
  item : ∀ (A : Around), A.handled = none → ∀ (i : Nat) (s : Shared) (Q : Option Value → Shared → Prop) (E : Value → Shared → Prop), i < n → St i s.heap → S < s.heap.objs.size →
    (∀ u v h' tk, P i u v → h'.get? s.heap.objs.size = some (tupO u v) → h'.objs.size = s.heap.objs.size + 1 → St (i + 1) h' → (∀ b o, b ∉ wr → s.heap.get? b = some o → h'.get? b = some o) →
      Q (some (.ref s.heap.objs.size)) { s with heap := h', toks := tk }) → wpAny (model prog w) A (pyNext (.ref I)) Q E s
  done : ∀ (A : Around), A.handled = none → ∀ (s : Shared) (Q : Option Value → Shared → Prop) (E : Value → Shared → Prop), St n s.heap →
    (∀ h' tk, (∀ b o, b ∉ wr → s.heap.get? b = some o → h'.get? b = some o) → Q none { s with heap := h', toks := tk }) → wpAny (model prog w) A (pyNext (.ref I)) Q E s
  self : ∀ (A : Around) (s : Shared) (Q : Value → Shared → Prop) (E : Value → Shared → Prop), St 0 s.heap → Q (.ref I) s → wpAny (model prog w) A (pyIter (.ref I)) Q E s
  ty : ∀ (i : Nat) (s : Shared), St i s.heap → s.TypeIs (.ref I) T
  sw : S ∉ wr
  iw : I ∈ wr
/-- the pairs that have come -/
def Its (lo : Nat) (P : Nat → Value → Value → Prop) (acc : Array Value) (h : Heap) (i : Nat) : Prop :=
  acc.size = i ∧ (∀ (j : Nat) (v : Value), acc[j]? = some v → ∃ a x y, v = .ref a ∧ h.get? a = some (tupO x y) ∧ P j x y ∧ lo ≤ a) ∧ ∀ (j k : Nat) (v : Value), acc[j]? = some v → acc[k]? = some v → j = k
theorem Its.keep {lo : Nat} {P : Nat → Value → Value → Prop} {acc : Array Value} {h h' : Heap} {i : Nat} (x : Its lo P acc h i) (k : ∀ a o, lo ≤ a → h.get? a = some o → h'.get? a = some o) : Its lo P acc h' i :=
  ⟨x.1, fun j v e => let ⟨a, u, w, e1, e2, e3, e4⟩ := x.2.1 j v e; ⟨a, u, w, e1, k a _ e4 e2, e3, e4⟩, x.2.2⟩
section
variable {prog : Program} {w : World} {s : Shared} {R : Result → Shared → Prop} {I S : Addr} {T : String} {wr : List Addr} {n : Nat} {P : Nat → Value → Value → Prop} {St : Nat → Heap → Prop}
theorem lsrc_loop (W : LSrc prog w I S T wr n P St) (hn : n ≤ sizeLine) (res : Value) {A : Around} (hh : A.handled = none) {h₁ : Heap} {lo : Nat} (hS1 : S < lo) (hwr : ∀ b ∈ wr, b < lo)
    (hR : ∀ h' tk acc c, (∀ b o, b ≠ S → b ∉ wr → h₁.get? b = some o → h'.get? b = some o) → h'.get? S = some { cls := .type "list", dict := none, data := .seq acc c, slots := #[] } → Its lo P acc h' n → R (.ok (.ret res)) { s with heap := h', toks := tk }) :
    ∀ (k i : Nat) (h : Heap) (tk c : Nat) (acc : Array Value), n - i = k → i ≤ n → St i h → (∀ b o, b ≠ S → b ∉ wr → h₁.get? b = some o → h.get? b = some o) →
      h.get? S = some { cls := .type "list", dict := none, data := .seq acc c, slots := #[] } → Its lo P acc h i → lo ≤ h.objs.size →
      codeAny (model prog w) A (.builtin "list.extend.loop" ⟨[.ref S, .ref I, res], []⟩) R { s with heap := h, toks := tk } := by
  have apart : ∀ {a : Addr}, lo ≤ a → a ≠ S ∧ a ∉ wr := fun {a} ha => ⟨fun e => by subst e; exact absurd hS1 (Nat.not_lt.mpr ha), fun m => absurd (hwr a m) (Nat.not_lt.mpr ha)⟩
  intro k
  induction k with
  | zero =>
    intro i h tk c acc hk hi hst hkeep hS hacc hlo
    have hin : i = n := by omega
    subst hin
    refine codeAny_builtin PySem.F.entry_extend_loop ?_
    rw [Around.under_plainId PySem.F.plain_extend_loop _]
    show wpAny _ A.in1 (pyNext (.ref I) >>= _) _ _ _
    refine wpAny_bind (W.done A.in1 hh { s with heap := h, toks := tk } _ _ hst fun h' tk' he => ?_)
    exact wpAny_pure (hR h' tk' acc c (fun b o h1 h2 e => he b o h2 (hkeep b o h1 h2 e)) (he S _ W.sw hS) (hacc.keep fun a o ha e => he a o (apart ha).2 e))
  | succ k ih =>
    intro i h tk c acc hk hi hst hkeep hS hacc hlo
    have hlt : i < n := by omega
    refine codeAny_builtin PySem.F.entry_extend_loop ?_
    rw [Around.under_plainId PySem.F.plain_extend_loop _]
    show wpAny _ A.in1 (pyNext (.ref I) >>= _) _ _ _
    refine wpAny_bind (W.item A.in1 hh i { s with heap := h, toks := tk } _ _ hlt hst (Heap.lt_size hS) fun u v h' tk' hP ht hz hst' hkp => ?_)
    have ht : h'.get? h.objs.size = some (tupO u v) := ht
    have hz : h'.objs.size = h.objs.size + 1 := hz
    have hkp : ∀ b o, b ∉ wr → h.get? b = some o → h'.get? b = some o := hkp
    have hS' := hkp S _ W.sw hS
    have up : ∀ b o, b ≠ S → h'.get? b = some o → (h'.update S (Obj.mapSeq (·.push (Value.ref h.objs.size)))).get? b = some o := fun b o hb e => (Heap.get?_update_other _ _ (Ne.symm hb)).trans e
    have hsz : acc.size = i := hacc.1
    have hap := apart hlo
    show wpAny _ A.in1 (updateSeq S (·.push (Value.ref h.objs.size)) >>= _) _ _ _
    refine wpAny_bind ?_
    refine wpAny_updateSeq hS' rfl (wpAny_pure ⟨plainId_quiet PySem.F.plain_extend_loop _, ih (i + 1) _ tk' _ (acc.push (Value.ref h.objs.size)) (by omega) hlt (W.frame _ _ _ hst' up)
      (fun b o h1 h2 e => up b o h1 (hkp b o h2 (hkeep b o h1 h2 e))) (Heap.get?_update_self _ hS' rfl) ⟨by rw [Array.size_push, hsz], fun j v' e => ?_, fun j k v' e e' => ?_⟩ (by rw [Heap.size_update, hz]; exact Nat.le_succ_of_le hlo)⟩) (by rw [hsz]; omega) (by show (acc.push (Value.ref h.objs.size)).size ≤ sizeLine + 1; rw [Array.size_push, hsz]; omega)
    · rw [Array.getElem?_push] at e
      split at e
      · rename_i hj
        cases e
        refine ⟨h.objs.size, u, v, rfl, up _ _ hap.1 ht, ?_, hlo⟩
        rw [hj, hsz]; exact hP
      · obtain ⟨a, x, y, e1, e2, e3, e4⟩ := hacc.2.1 j v' e
        exact ⟨a, x, y, e1, up a _ (apart e4).1 (hkp a _ (apart e4).2 e2), e3, e4⟩
    · have old : ∀ (j : Nat), acc[j]? = some (Value.ref h.objs.size) → False := fun j e => by
        obtain ⟨a, x, y, e1, e2, _, _⟩ := hacc.2.1 j _ e
        cases e1
        exact absurd (Heap.lt_size e2) (Nat.lt_irrefl _)
      rw [Array.getElem?_push] at e e'
      split at e
      · rename_i hj
        cases e
        split at e'
        · rename_i hk'
          rw [hj, hk']
        · exact (old _ e').elim
      · split at e'
        · cases e'
          exact (old _ e).elim
        · exact hacc.2.2 j k v' e e'
variable {A : Around} {E : Value → Shared → Prop}
theorem lsrc_extend (W : LSrc prog w I S T wr n P St) (hl : typeLookup (.type T) "__len__" = pure none) (hn0 : typeLookup (.type T) "__length_hint__" = pure none) (h2 : (Value.type T == Value.type "list") = false) (h3 : (Value.type T == Value.type "tuple") = false)
    (hh : A.handled = none) (hn : n ≤ sizeLine) (res : Value) (c₀ : Nat) (hst : St 0 s.heap) (hwr : ∀ b ∈ wr, b < s.heap.objs.size) (hS : s.heap.get? S = some { cls := .type "list", data := .seq #[] c₀ })
    (hR : ∀ h' tk acc c, (∀ b o, b ≠ S → b ∉ wr → s.heap.get? b = some o → h'.get? b = some o) → h'.get? S = some { cls := .type "list", dict := none, data := .seq acc c, slots := #[] } → Its s.heap.objs.size P acc h' n → R (.ok (.ret res)) { s with heap := h', toks := tk }) :
    wpAny (model prog w) A.in1 (Builtin.List.listExtendWith (.ref S) (.ref I) res)
      (fun fin s' => match fin with | .done f => R (.ok f) s' | .again c' => c'.quiet = true ∧ codeAny (model prog w) A c' R s') (fun e s' => R (.error e) s') s := by
  have hSI : S ≠ I := fun e => W.sw (e ▸ W.iw)
  unfold Builtin.List.listExtendWith
  refine wpAny_bind (wpAny_typeOf (W.ty 0 _ hst) ?_)
  have h1 : Builtin.List.listSameRef (.ref S) (.ref I) = false := by simp [Builtin.List.listSameRef, hSI]
  simp only [h1, h2, h3, Bool.or_false, Bool.false_eq_true, if_false]
  refine wpAny_bind (W.self _ _ _ _ hst ?_)
  refine wpAny_bind (wpAny_holding ?_)
  unfold Builtin.List.listLengthHint
  refine wpAny_bind (wpAny_specialOf (W.ty 0 _ hst) hl ?_)
  show wpAny _ A.in1 (specialOf (Value.ref I) (Str.ofString "__length_hint__") >>= _) _ _ _
  refine wpAny_bind (wpAny_specialOf (W.ty 0 _ hst) hn0 ?_)
  refine wpAny_pure ?_
  show wpAny _ A.in1 (rule "list.extend.makes-room" >>= fun _ => Builtin.List.listTouch (.ref S) >>= fun _ =>
    again (.builtin "list.extend.loop" ⟨[.ref S, .ref I, res], []⟩)) _ _ _
  refine wpAny_bind (wpAny_rule ?_)
  refine wpAny_bind ?_
  show wpAny _ A.in1 (updateSeq S (·.push .none) >>= fun _ => updateSeq S (·.pop)) _ _ _
  refine wpAny_bind (wpAny_updateSeq hS rfl ?_)
  have hS₂ := Heap.get?_update_self (Obj.mapSeq (·.push Value.none)) hS rfl
  refine wpAny_updateSeq (hz := by seq_fits) hS₂ rfl ?_
  have hS₃ := Heap.get?_update_self (Obj.mapSeq (·.pop)) hS₂ rfl
  have oth : ∀ b o, b ≠ S → s.heap.get? b = some o → ((s.heap.update S (Obj.mapSeq (·.push Value.none))).update S (Obj.mapSeq (·.pop))).get? b = some o :=
    fun b o hb e => (Heap.get?_update_other _ _ (Ne.symm hb)).trans ((Heap.get?_update_other _ _ (Ne.symm hb)).trans e)
  refine wpAny_pure ⟨plainId_quiet PySem.F.plain_extend_loop _, lsrc_loop (s := s) (h₁ := s.heap) (lo := s.heap.objs.size) W hn res hh (Heap.lt_size hS) hwr hR n 0 _ s.toks _ _ rfl (Nat.zero_le _)
    (W.frame 0 _ _ hst oth) (fun b o hb _ e => oth b o hb e) hS₃ ⟨rfl, fun j v e => (by simp at e), fun j k v e => (by simp at e)⟩ (by rw [Heap.size_update, Heap.size_update]; exact Nat.le_refl _)⟩
theorem lsrc_init (W : LSrc prog w I S T wr n P St) (hl : typeLookup (.type T) "__len__" = pure none) (hn0 : typeLookup (.type T) "__length_hint__" = pure none) (h2 : (Value.type T == Value.type "list") = false) (h3 : (Value.type T == Value.type "tuple") = false)
    (hh : A.handled = none) (hn : n ≤ sizeLine) (hst : St 0 s.heap) (hwr : ∀ b ∈ wr, b < s.heap.objs.size) (hS : s.heap.get? S = some { cls := .type "list", data := .seq #[] })
    (hR : ∀ h' tk acc c, (∀ b o, b ≠ S → b ∉ wr → s.heap.get? b = some o → h'.get? b = some o) → h'.get? S = some { cls := .type "list", dict := none, data := .seq acc c, slots := #[] } → Its s.heap.objs.size P acc h' n → R (.ok (.ret .none)) { s with heap := h', toks := tk }) :
    wpAny (model prog w) A.in1 (Builtin.«list.__init__» ⟨[.ref S, .ref I], []⟩)
      (fun fin s' => match fin with | .done f => R (.ok f) s' | .again c' => c'.quiet = true ∧ codeAny (model prog w) A c' R s') (fun e s' => R (.error e) s') s := by
  show wpAny _ A.in1 (do let old ← Builtin.List.listItems (.ref S); Builtin.List.listUpdate (.ref S) (fun _ => #[]); letGo old.toList.reverse; Builtin.List.listExtendWith (.ref S) (.ref I) .none) _ _ s
  refine wpAny_bind ?_
  unfold Builtin.List.listItems
  refine wpAny_bind (wpAny_seqItems hS rfl (wpAny_pure ?_))
  show wpAny _ A.in1 (updateSeq S (fun _ => #[]) >>= fun _ => letGo (#[] : Array Value).toList.reverse >>= fun _ => Builtin.List.listExtendWith (.ref S) (.ref I) .none) _ _ s
  refine wpAny_bind (wpAny_updateSeq hS rfl ?_)
  have hS₂ := Heap.get?_update_self (Obj.mapSeq (fun _ => (#[] : Array Value))) hS rfl
  have oth : ∀ b o, b ≠ S → s.heap.get? b = some o → (s.heap.update S (Obj.mapSeq (fun _ => (#[] : Array Value)))).get? b = some o :=
    fun b o hb e => (Heap.get?_update_other _ _ (Ne.symm hb)).trans e
  refine wpAny_bind (wpAny_letGo ?_)
  refine lsrc_extend W hl hn0 h2 h3 hh hn .none _ (W.frame 0 _ _ hst oth) (fun b hb => by rw [Heap.size_update]; exact hwr b hb) hS₂ fun h' tk acc c hk hS' hI => ?_
  have e : (s.heap.update S (Obj.mapSeq (fun _ => (#[] : Array Value)))).objs.size = s.heap.objs.size := Heap.size_update ..
  have hI' : Its (s.heap.update S (Obj.mapSeq (fun _ => (#[] : Array Value)))).objs.size P acc h' n := hI
  rw [e] at hI'
  exact hR h' tk acc c (fun b o hb hw x => hk b o hb hw (oth b o hb x)) hS' hI'
/-- list(it) -/
theorem lsrc_call {Q : Value → Shared → Prop} (W : LSrc prog w I s.heap.objs.size T wr n P St) (hl : typeLookup (.type T) "__len__" = pure none) (hn0 : typeLookup (.type T) "__length_hint__" = pure none) (h2 : (Value.type T == Value.type "list") = false) (h3 : (Value.type T == Value.type "tuple") = false)
    (hh : A.handled = none) (hn : n ≤ sizeLine) (hst : St 0 s.heap) (hwr : ∀ b ∈ wr, b < s.heap.objs.size)
    (hQ : ∀ h' tk acc c, (∀ b o, b ∉ wr → s.heap.get? b = some o → h'.get? b = some o) → h'.get? s.heap.objs.size = some { cls := .type "list", dict := none, data := .seq acc c, slots := #[] } → Its (s.heap.objs.size + 1) P acc h' n → Q (.ref s.heap.objs.size) { s with heap := h', toks := tk }) :
    wpAny (model prog w) A (call (.type "list") [.ref I]) Q E s := by
  refine callType_codes (Q₁ := fun obj s₁ => obj = .ref s.heap.objs.size ∧ s₁ = { s with heap := s.heap.push { cls := .type "list", data := .seq #[] } }) PySem.F.called_list (PySem.F.typeCall_list_1 _) PySem.F.entry_list_init
    (code_list_new _ ⟨rfl, rfl⟩) fun obj s₁ h₁ => ?_
  obtain ⟨rfl, rfl⟩ := h₁
  have hS : (s.heap.push { cls := .type "list", data := .seq #[] }).get? s.heap.objs.size = some { cls := .type "list", data := .seq #[] } := Heap.get?_push_size _ rfl
  have hsz : (s.heap.push { cls := .type "list", data := .seq #[] }).objs.size = s.heap.objs.size + 1 := Heap.size_push ..
  refine ⟨⟨_, hS, rfl⟩, PySem.F.args_list_init_2 _ _, lsrc_init (A := A.in1) W hl hn0 h2 h3 hh hn (W.frame 0 _ _ hst fun b o _ e => Heap.get?_push_of_some _ e) (fun b hb => by show b < (s.heap.push _).objs.size; rw [hsz]; exact Nat.lt_succ_of_lt (hwr b hb)) hS fun h' tk acc c hk hS' hI => ?_⟩
  have hI' : Its (s.heap.push { cls := .type "list", data := .seq #[] }).objs.size P acc h' n := hI
  rw [hsz] at hI'
  exact ⟨rfl, hQ h' tk acc c (fun b o hw e => hk b o (Nat.ne_of_lt (Heap.lt_size e)) hw (Heap.get?_push_of_some _ e)) hS' hI'⟩
end

/-! ### enumerate, whose last pair is still held -/
abbrev EnOut (h : Heap) (e it : Addr) (i : Int) (item : Value) (a : Addr) (f : Bool) : Prop :=
  h.get? e = some { cls := .type "enumerate", dict := none, data := .fields #[rawInt a, .bool f, .ref it, rawInt i, .none, item], slots := #[] }
section
variable {prog : Program} {w : World} {A : Around} {E : Value → Shared → Prop} {s : Shared}
theorem enum_next_out {e it a : Addr} {f : Bool} {oa : Obj} {fp : List Addr} {n i : Nat} {P : Nat → Value → Prop} {St : Nat → Heap → Prop} {old : Value} {Q : Value → Shared → Prop}
    (D : Draws prog w A it fp n P St) (he : EnOut s.heap e it i old a f) (ha : s.heap.get? a = some oa) (hae : a ≠ e) (hai : a ≠ it) (hst : St i s.heap) (hlt : i < n) (hne : e ≠ it) (hef : e ∉ fp)
    (hQ : ∀ x h' tk, P i x → EnOut h' e it ((i : Int) + 1) old a true → St (i + 1) h' →
      h'.get? s.heap.objs.size = some { cls := .type "tuple", data := .seq #[.int i tk, x] } → h'.objs.size = s.heap.objs.size + 1 →
      (∀ b o, b ≠ e → b ≠ it → s.heap.get? b = some o → h'.get? b = some o) → Q (.ref s.heap.objs.size) { s with heap := h', toks := tk + 1 }) :
    wpAny (model prog w) A (Builtin.«enumerate.__next__» ⟨[.ref e], []⟩) (fun fin s' => ∃ v, fin = .done (.ret v) ∧ Q v s') E s := by
  obtain ⟨hp, g, d, tk₀, os⟩ := s
  show wpAny _ _ (field (.ref e) 2 >>= _) _ _ _
  refine wpAny_bind (wpAny_field he rfl (x := .ref it) rfl ?_)
  refine wpAny_bind (D.item i _ _ _ hlt hst fun x h₁ tk hPx hit₁ hs₁ => ?_)
  replace hs₁ : Heap.SameBut it hp h₁ := hs₁
  have he₁ : EnOut h₁ e it i old a f := (hs₁.2 e hne).trans he
  show wpAny _ _ (field (.ref e) 3 >>= _) _ _ ⟨h₁, g, d, tk, os⟩
  refine wpAny_bind (wpAny_field he₁ rfl (x := rawInt i) rfl ?_)
  show wpAny _ _ (field (.ref e) 4 >>= _) _ _ ⟨h₁, g, d, tk, os⟩
  refine wpAny_bind (wpAny_field he₁ rfl (x := .none) rfl ?_)
  show wpAny _ _ (mkInt i >>= _) _ _ ⟨h₁, g, d, tk, os⟩
  refine wpAny_bind (wpAny_mkInt ?_)
  show wpAny _ _ (setField (.ref e) 3 (rawInt ((i : Int) + 1)) >>= _) _ _ ⟨h₁, g, d, tk + 1, os⟩
  refine wpAny_bind (wpAny_setField_rec he₁ (by simp) fun h₂ he₂ hs₂ => ?_)
  replace hs₂ : Heap.SameBut e h₁ h₂ := hs₂
  replace he₂ : EnOut h₂ e it ((i : Int) + 1) old a f := he₂
  show wpAny _ _ (setField (.ref e) 4 .none >>= _) _ _ ⟨h₂, g, d, tk + 1, os⟩
  refine wpAny_bind (wpAny_setField_rec he₂ (by simp) fun h₃ he₃ hs₃ => ?_)
  replace hs₃ : Heap.SameBut e h₂ h₃ := hs₃
  replace he₃ : EnOut h₃ e it ((i : Int) + 1) old a f := he₃
  show wpAny _ _ (newTuple [.int i tk, x] >>= _) _ _ ⟨h₃, g, d, tk + 1, os⟩
  refine wpAny_bind (wpAny_newTuple ?_)
  have he₄ : EnOut (h₃.push { cls := .type "tuple", data := .seq #[.int i tk, x] }) e it ((i : Int) + 1) old a f := Heap.get?_push_of_some _ he₃
  generalize hh₄ : h₃.push { cls := .type "tuple", data := .seq #[.int i tk, x] } = h₄ at he₄
  have hsz : h₃.objs.size = hp.objs.size := by rw [hs₃.1, hs₂.1, hs₁.1]
  have hel : e < hp.objs.size := Heap.lt_size he
  have ht₄ : h₄.get? hp.objs.size = some { cls := .type "tuple", data := .seq #[.int i tk, x] } := by rw [← hh₄, ← hsz]; exact Heap.get?_push_size _ rfl
  have hz₄ : h₄.objs.size = hp.objs.size + 1 := by rw [← hh₄, Heap.size_push, hsz]
  have hk₄ : ∀ b o, b ≠ e → b ≠ it → hp.get? b = some o → h₄.get? b = some o := fun b o hbe hbi hb => by
    rw [← hh₄]; exact Heap.get?_push_of_some _ (hs₃.extBut b o hbe (hs₂.extBut b o hbe (hs₁.extBut b o hbi hb)))
  have hit₄ : St (i + 1) h₄ := D.frame _ _ _ hit₁ fun b hb o y => by
    have hbe : b ≠ e := fun q => hef (q ▸ hb)
    rw [← hh₄]; exact Heap.get?_push_of_some _ (hs₃.extBut b o hbe (hs₂.extBut b o hbe y))
  show wpAny _ _ (Builtin.SmallTypes.ownedTupleIsFree (.ref e) >>= _) _ _ ⟨h₄, g, d, tk + 1, os⟩
  rw [hsz]
  clear hh₄ he₃ hs₃ he₂ hs₂ he₁ hs₁ hit₁ hsz h₃ h₂ h₁
  have ha₄ : h₄.get? a = some oa := hk₄ a oa hae hai ha
  have fin : ∀ h₅ : Heap, EnOut h₅ e it ((i : Int) + 1) old a true → Heap.SameBut e h₄ h₅ → Q (.ref hp.objs.size) ⟨h₅, g, d, tk + 1, os⟩ := fun h₅ he₅ hs₅ =>
    hQ x h₅ tk hPx he₅ (D.frame _ _ _ hit₄ fun b hb o y => hs₅.extBut b o (fun q => hef (q ▸ hb)) y) (hs₅.extBut _ _ (Nat.ne_of_gt hel) ht₄) (by show h₅.objs.size = hp.objs.size + 1; rw [hs₅.1, hz₄]) fun b o hbe hbi hb => hs₅.extBut b o hbe (hk₄ b o hbe hbi hb)
  refine wpAny_bind ?_
  unfold Builtin.SmallTypes.ownedTupleIsFree
  refine wpAny_bind (wpAny_field he₄ rfl (x := rawInt a) rfl ?_)
  show wpAny _ _ (loadIfAlive ((a : Int).toNat) >>= _) _ _ _
  rw [Int.toNat_natCast]
  refine wpAny_bind (kdx_alive ha₄ ?_)
  simp only [Option.isNone_some, Bool.false_eq_true, if_false]
  refine wpAny_bind (wpAny_field he₄ rfl (x := .bool f) rfl ?_)
  cases f with
  | true =>
    rw [if_neg (show ¬ ((Value.bool true != Value.bool true) = true) from Bool.false_ne_true)]
    refine wpAny_pure ?_
    simp only [Bool.false_eq_true, if_false]
    exact wpAny_pure ⟨_, rfl, fin h₄ he₄ (Heap.SameBut.refl _ _)⟩
  | false =>
    rw [if_pos (show (Value.bool false != Value.bool true) = true from rfl)]
    refine wpAny_bind (wpAny_setField_rec he₄ (by simp) fun h₅ he₅ hs₅ => ?_)
    replace hs₅ : Heap.SameBut e h₄ h₅ := hs₅
    replace he₅ : EnOut h₅ e it ((i : Int) + 1) old a true := he₅
    refine wpAny_pure ?_
    simp only [Bool.false_eq_true, if_false]
    exact wpAny_pure ⟨_, rfl, fin h₅ he₅ hs₅⟩
theorem pyNext_enum_out {e it a : Addr} {f : Bool} {oa : Obj} {fp : List Addr} {n i : Nat} {P : Nat → Value → Prop} {St : Nat → Heap → Prop} {old : Value} {Q : Option Value → Shared → Prop}
    (D : Draws prog w A.in1 it fp n P St) (he : EnOut s.heap e it i old a f) (ha : s.heap.get? a = some oa) (hae : a ≠ e) (hai : a ≠ it) (hst : St i s.heap) (hlt : i < n) (hne : e ≠ it) (hef : e ∉ fp)
    (hQ : ∀ x h' tk, P i x → EnOut h' e it ((i : Int) + 1) old a true → St (i + 1) h' →
      h'.get? s.heap.objs.size = some { cls := .type "tuple", data := .seq #[.int i tk, x] } → h'.objs.size = s.heap.objs.size + 1 →
      (∀ b o, b ≠ e → b ≠ it → s.heap.get? b = some o → h'.get? b = some o) → Q (some (.ref s.heap.objs.size)) { s with heap := h', toks := tk + 1 }) :
    wpAny (model prog w) A (pyNext (.ref e)) Q E s := by
  have hT : s.TypeIs (.ref e) "enumerate" := ⟨_, he, rfl⟩
  unfold pyNext
  exact wpAny_bind (wpAny_attempt (wpAny_callSpecial?_slot (name := Str.ofString "__next__") hT F.slot_enumerate_next
    (wpAny_call_entry F.slot_enumerate_next hT F.entry_enumerate_next
      (enum_next_out D he ha hae hai hst hlt hne hef fun x h' tk a b c d k q => wpAny_pure (hQ x h' tk a b c d k q)) (F.args_enumerate_next_1 _))))
theorem pyNext_enum_out_end {e it a : Addr} {f : Bool} {fp : List Addr} {n : Nat} {P : Nat → Value → Prop} {St : Nat → Heap → Prop} {i : Int} {old : Value} {Q : Option Value → Shared → Prop}
    (D : Draws prog w A.in1 it fp n P St) (he : EnOut s.heap e it i old a f) (hst : St n s.heap)
    (hQ : ∀ h', Heap.ExtBut it s.heap h' → Q none { s with heap := h' }) : wpAny (model prog w) A (pyNext (.ref e)) Q E s := by
  have hT : s.TypeIs (.ref e) "enumerate" := ⟨_, he, rfl⟩
  unfold pyNext
  refine wpAny_bind (wpAny_attempt (wpAny_callSpecial?_slot (name := Str.ofString "__next__") hT F.slot_enumerate_next
    (wpAny_call_entry F.slot_enumerate_next hT F.entry_enumerate_next ?_ (F.args_enumerate_next_1 _))))
  show wpAny _ _ (field (.ref e) 2 >>= _) _ _ _
  refine wpAny_bind (wpAny_field he rfl (x := .ref it) rfl ?_)
  refine wpAny_bind (D.done _ _ _ hst fun h' x he' hx' => ?_)
  obtain ⟨o, ho, hc⟩ := hx'
  refine wpAny_bind (wpAny_isInstance (T := "StopIteration") (b := true) ⟨o, ho, hc⟩ isSubtype_stop ?_)
  exact wpAny_pure (hQ _ he')
end
end DL

/-! E8: list(enumerate(x)), list(zip(x, y)). -/
namespace DL
open PySem PySem.Spec PyProof.Rows L2
section
variable {prog : Program} {w : World}
theorem en_nolen : typeLookup (.type "enumerate") "__len__" = pure none := by rw [typeLookup_type, builtinLookup_eq_fast]; kernel_rfl
theorem en_nohint : typeLookup (.type "enumerate") "__length_hint__" = pure none := by rw [typeLookup_type, builtinLookup_eq_fast]; kernel_rfl
theorem zi_nolen : typeLookup (.type "zip") "__len__" = pure none := by rw [typeLookup_type, builtinLookup_eq_fast]; kernel_rfl
theorem zi_nohint : typeLookup (.type "zip") "__length_hint__" = pure none := by rw [typeLookup_type, builtinLookup_eq_fast]; kernel_rfl
theorem lsrc_enum {e it S l : Addr} (items : Array Value) (hei : e ≠ it) (hle : l ≠ e) (hli : l ≠ it) (hSe : S ≠ e) (hSi : S ≠ it) (hSl : S ≠ l) :
    LSrc prog w e S "enumerate" [e, it] items.size (fun i u v => (∃ t, u = .int (i : Nat) t) ∧ items[i]? = some v)
      (fun i h => h.IsListIter it l i ∧ h.IsList l items ∧ ((∃ old, IsEnum h e it (i : Nat) old) ∨ 0 < i ∧ ∃ old T f oT, IsEnumHeld h e it (i : Nat) old T f ∧ h.get? T = some oT ∧ T ≠ e ∧ T ≠ it ∧ T ≠ S)) where
  frame := fun i h h' st hk => by
    obtain ⟨hit, hl, he⟩ := st
    refine ⟨hit.at fun o x => hk _ o (Ne.symm hSi) x, hl.at fun o x => hk _ o (Ne.symm hSl) x, ?_⟩
    rcases he with ⟨old, he⟩ | ⟨hi, old, T, f, oT, he, hT, r1, r2, r3⟩
    · exact .inl ⟨old, hk _ _ (Ne.symm hSe) he⟩
    · exact .inr ⟨hi, old, T, f, oT, hk _ _ (Ne.symm hSe) he, hk _ _ r3 hT, r1, r2, r3⟩
  item := fun A hA i s₁ Q₁ E₁ hi st hds hQ => by
    obtain ⟨hit, hl, he⟩ := st
    have ex := Array.getElem?_eq_getElem hi
    have ec : ((i + 1 : Nat) : Int) = (i : Int) + 1 := by omega
    have nit : s₁.heap.objs.size ≠ it := let ⟨_, x, _⟩ := hit; Nat.ne_of_gt (Heap.lt_size x)
    rcases he with ⟨old, he⟩ | ⟨_, old, T, f, oT, he, hT, r1, r2, r3⟩
    · refine wpAny_pyNext_enum_item he hit hl ex hei fun h' ho hit' hT hsz hk => ?_
      exact hQ _ _ h' (s₁.toks + 1) ⟨⟨_, rfl⟩, ex⟩ hT hsz
        ⟨hit', hl.at fun o x => hk l o hle hli x, .inr ⟨Nat.succ_pos _, _, s₁.heap.objs.size, false, _, (by rw [ec]; exact ho), hT, Nat.ne_of_gt (Heap.lt_size he), nit, Nat.ne_of_gt hds⟩⟩
        fun b o hb x => hk b o (fun y => hb (by simp [y])) (fun y => hb (by simp [y])) x
    · refine wpAny_pyNext_enum_item_held he hT r1 r2 hit hl ex hei fun h' ho hit' hT' hsz hk => ?_
      exact hQ _ _ h' (s₁.toks + 1) ⟨⟨_, rfl⟩, ex⟩ hT' hsz
        ⟨hit', hl.at fun o x => hk l o hle hli x, .inr ⟨Nat.succ_pos _, old, T, true, oT, (by rw [ec]; exact ho), hk _ _ r1 r2 hT, r1, r2, r3⟩⟩
        fun b o hb x => hk b o (fun y => hb (by simp [y])) (fun y => hb (by simp [y])) x
  done := fun A hA s₁ Q₁ E₁ st hQ => by
    obtain ⟨hit, hl, he⟩ := st
    have hx : items[items.size]? = none := Array.getElem?_eq_none (Nat.le_refl _)
    rcases he with ⟨old, he⟩ | ⟨_, old, T, f, oT, he, hT, r1, r2, r3⟩
    · exact wpAny_pyNext_enum_end hA he hit hl hx fun h' hk => hQ h' s₁.toks fun b o hb x => hk b o (fun y => hb (by simp [y])) x
    · exact wpAny_pyNext_enum_end_held hA he hit hl hx fun h' hk => hQ h' s₁.toks fun b o hb x => hk b o (fun y => hb (by simp [y])) x
  self := fun A s₁ Q₁ E₁ st hQ => by
    obtain ⟨hit, hl, he⟩ := st
    rcases he with ⟨old, he⟩ | ⟨hi, _⟩
    · exact wpAny_pyIter_enum he hQ
    · exact absurd hi (Nat.lt_irrefl _)
  ty := fun i s₁ st => by
    obtain ⟨hit, hl, he⟩ := st
    rcases he with ⟨old, he⟩ | ⟨_, old, T, f, oT, he, _⟩
    · exact ⟨_, he, rfl⟩
    · exact ⟨_, he, rfl⟩
  sw := fun hm => by
    simp only [List.mem_cons, List.not_mem_nil, or_false] at hm
    rcases hm with x | x
    · exact hSe x
    · exact hSi x
  iw := List.mem_cons_self
theorem lsrc_zip {z TI TO i1 i2 S l1 l2 : Addr} (D : ZipApart z TI TO i1 i2 l1 l2) (xs ys : Array Value) (dz : S ≠ z) (dTI : S ≠ TI) (dTO : S ≠ TO) (di1 : S ≠ i1) (di2 : S ≠ i2) (dl1 : S ≠ l1) (dl2 : S ≠ l2) :
    LSrc prog w z S "zip" [z, TO, i1, i2] (min xs.size ys.size) (fun i u v => xs[i]? = some u ∧ ys[i]? = some v)
      (fun i h => IsPair h TI (.ref i1) (.ref i2) ∧ h.IsListIter i1 l1 i ∧ h.IsListIter i2 l2 i ∧ h.IsList l1 xs ∧ h.IsList l2 ys ∧
        ((IsZip h z TI TO .none ∧ ∃ a b, IsPair h TO a b) ∨ 0 < i ∧ ∃ T f oT, IsZipHeld h z TI TO T f ∧ h.get? T = some oT ∧ T ≠ z ∧ T ≠ i1 ∧ T ≠ i2 ∧ T ≠ S)) where
  frame := fun i h₁ h₂ st hk => by
    obtain ⟨hTI, h1, h2, hl1, hl2, hz⟩ := st
    refine ⟨hk _ _ (Ne.symm dTI) hTI, h1.at fun o e => hk _ o (Ne.symm di1) e, h2.at fun o e => hk _ o (Ne.symm di2) e, hl1.at fun o e => hk _ o (Ne.symm dl1) e, hl2.at fun o e => hk _ o (Ne.symm dl2) e, ?_⟩
    rcases hz with ⟨hz, a, b, hTO⟩ | ⟨hi, T, f, oT, hz, hT, r1, r2, r3, r4⟩
    · exact .inl ⟨hk _ _ (Ne.symm dz) hz, a, b, hk _ _ (Ne.symm dTO) hTO⟩
    · exact .inr ⟨hi, T, f, oT, hk _ _ (Ne.symm dz) hz, hk _ _ r4 hT, r1, r2, r3, r4⟩
  item := fun A hA i s₁ Q₁ E₁ hi st hds hQ => by
    obtain ⟨hTI, h1, h2, hl1, hl2, hz⟩ := st
    have hix : i < xs.size := Nat.lt_of_lt_of_le hi (Nat.min_le_left ..)
    have hiy : i < ys.size := Nat.lt_of_lt_of_le hi (Nat.min_le_right ..)
    have ex := Array.getElem?_eq_getElem hix
    have ey := Array.getElem?_eq_getElem hiy
    have n1 : s₁.heap.objs.size ≠ i1 := let ⟨_, x, _⟩ := h1; Nat.ne_of_gt (Heap.lt_size x)
    have n2 : s₁.heap.objs.size ≠ i2 := let ⟨_, x, _⟩ := h2; Nat.ne_of_gt (Heap.lt_size x)
    rcases hz with ⟨hz, a, b, hTO⟩ | ⟨_, T, f, oT, hz, hT, r1, r2, r3, r4⟩
    · refine wpAny_pyNext_zip_item D hz hTI hTO h1 h2 hl1 hl2 ex ey fun h' a1 a2 a3 a4 a5 a6 hk => ?_
      exact hQ _ _ h' s₁.toks ⟨ex, ey⟩ a5 a6
        ⟨hk _ _ D.TIz D.TITO D.TIi1 D.TIi2 hTI, a3, a4, hl1.at fun o e => hk _ o D.l1z D.l1TO D.l1i1 D.l1i2 e, hl2.at fun o e => hk _ o D.l2z D.l2TO D.l2i1 D.l2i2 e,
          .inr ⟨Nat.succ_pos _, s₁.heap.objs.size, false, _, a1, a5, Nat.ne_of_gt (Heap.lt_size hz), n1, n2, Nat.ne_of_gt hds⟩⟩
        fun c o hc e => hk c o (fun x => hc (by simp [x])) (fun x => hc (by simp [x])) (fun x => hc (by simp [x])) (fun x => hc (by simp [x])) e
    · refine wpAny_pyNext_zip_item_held D hz hT hTI h1 h2 hl1 hl2 ex ey fun h' a1 a3 a4 a5 a6 hk => ?_
      exact hQ _ _ h' s₁.toks ⟨ex, ey⟩ a5 a6
        ⟨hk _ _ D.TIz D.TIi1 D.TIi2 hTI, a3, a4, hl1.at fun o e => hk _ o D.l1z D.l1i1 D.l1i2 e, hl2.at fun o e => hk _ o D.l2z D.l2i1 D.l2i2 e,
          .inr ⟨Nat.succ_pos _, T, true, oT, a1, hk _ _ r1 r2 r3 hT, r1, r2, r3, r4⟩⟩
        fun c o hc e => hk c o (fun x => hc (by simp [x])) (fun x => hc (by simp [x])) (fun x => hc (by simp [x])) e
  done := fun A hA s₁ Q₁ E₁ st hQ => by
    obtain ⟨hTI, h1, h2, hl1, hl2, hz⟩ := st
    have hend : xs[min xs.size ys.size]? = none ∨ ys[min xs.size ys.size]? = none := by
      rcases Nat.le_total xs.size ys.size with h | h
      · exact .inl (Array.getElem?_eq_none (by rw [Nat.min_eq_left h]; exact Nat.le_refl _))
      · exact .inr (Array.getElem?_eq_none (by rw [Nat.min_eq_right h]; exact Nat.le_refl _))
    rcases hz with ⟨hz, a, b, hTO⟩ | ⟨_, T, f, oT, hz, hT, r1, r2, r3, r4⟩
    · exact wpAny_pyNext_zip_end hA D hz hTI hTO h1 h2 hl1 hl2 hend fun h' hk => hQ h' s₁.toks fun c o hc e => hk c o (fun x => hc (by simp [x])) (fun x => hc (by simp [x])) (fun x => hc (by simp [x])) (fun x => hc (by simp [x])) e
    · exact wpAny_pyNext_zip_end_held hA D hz hT hTI h1 h2 hl1 hl2 hend fun h' hk => hQ h' s₁.toks fun c o hc e => hk c o (fun x => hc (by simp [x])) (fun x => hc (by simp [x])) (fun x => hc (by simp [x])) e
  self := fun A s₁ Q₁ E₁ st hQ => by
    obtain ⟨_, _, _, _, _, he⟩ := st
    rcases he with ⟨he, _⟩ | ⟨hi, _⟩
    · exact wpAny_pyIter_zip he hQ
    · exact absurd hi (Nat.lt_irrefl _)
  ty := fun i s₁ st => by
    obtain ⟨_, _, _, _, _, he⟩ := st
    rcases he with ⟨he, _⟩ | ⟨_, T, f, oT, he, _⟩
    · exact ⟨_, he, rfl⟩
    · exact ⟨_, he, rfl⟩
  sw := fun hm => by
    simp only [List.mem_cons, List.not_mem_nil, or_false] at hm
    rcases hm with e | e | e | e
    · exact dz e
    · exact dTO e
    · exact di1 e
    · exact di2 e
  iw := List.mem_cons_self
end

/-! ### many new tuples -/
def layP (H : Hp) : List (Addr × V × V) → Hp
  | [] => H
  | p :: L => upd (layP H L) p.1 (.tup [p.2.1, p.2.2])
theorem layP_ne {H : Hp} {a : Addr} : ∀ {L : List (Addr × V × V)}, a ∉ L.map Prod.fst → layP H L a = H a
  | [], _ => rfl
  | p :: L, h => by
    rw [List.map_cons, List.mem_cons, not_or] at h
    show upd (layP H L) p.1 _ a = _
    rw [upd_ne h.1, layP_ne h.2]
theorem layP_mem {H : Hp} {p : Addr × V × V} : ∀ {L : List (Addr × V × V)}, (L.map Prod.fst).Nodup → p ∈ L → layP H L p.1 = some (.tup [p.2.1, p.2.2])
  | q :: L, hn, h => by
    rw [List.map_cons, List.nodup_cons] at hn
    show upd (layP H L) q.1 _ p.1 = _
    rcases List.mem_cons.mp h with e | e
    · rw [e, upd_same]
    · rw [upd_ne (fun z => hn.1 (by rw [← z]; exact List.mem_map.mpr ⟨p, e, rfl⟩)), layP_mem hn.2 e]
theorem layP_some {H : Hp} {a : Addr} {o : HO} : ∀ {L : List (Addr × V × V)}, (L.map Prod.fst).Nodup → layP H L a = some o → H a = some o ∨ ∃ p ∈ L, p.1 = a ∧ o = .tup [p.2.1, p.2.2]
  | [], _, h => .inl h
  | q :: L, hn, h => by
    rw [List.map_cons, List.nodup_cons] at hn
    have h' : upd (layP H L) q.1 (.tup [q.2.1, q.2.2]) a = some o := h
    by_cases e : a = q.1
    · subst e
      rw [upd_same] at h'
      cases h'
      exact .inr ⟨q, List.mem_cons_self, rfl, rfl⟩
    · rw [upd_ne e] at h'
      rcases layP_some hn.2 h' with r | ⟨p, hp, r1, r2⟩
      · exact .inl r
      · exact .inr ⟨p, List.mem_cons_of_mem _ hp, r1, r2⟩
section
variable {X : Cx} {pins : List (Addr × Obj)} {σ : St} {H : Hp} {s : Shared} {h' : Heap}
/-- new objects laid and tracked, all at once -/
theorem _root_.L2.Inv.ext {H2 : Hp} {t' : Nat} (I : Inv X pins σ H s) (k : ∀ b u, s.heap.get? b = some u → h'.get? b = some u) (old : ∀ b o, H b = some o → H2 b = some o)
    (new : ∀ b o, H2 b = some o → H b = some o ∨ (s.heap.objs.size ≤ b ∧ ObjOk X.prog X.w H2 h' b o)) : Inv X pins σ H2 { s with heap := h', toks := t' } := by
  refine I.un ⟨fun b u q _ _ _ => k b u q, fun b u q _ _ _ => ⟨u.slots, k b u q⟩, fun b u q n _ => ?_, fun b u q _ => ⟨u, k b u q⟩, fun b xs q => old b _ q, fun b u xs q => old b _ q, fun b ps q => ⟨#[], by rw [old b _ q]; simp⟩⟩ ?_
  · cases e : H2 b with
    | none => rfl
    | some o =>
      rcases new b o e with r | ⟨r, _⟩
      · rw [n] at r; cases r
      · exact absurd (Heap.lt_size q) (Nat.not_lt.mpr r)
  · intro b u e
    rcases new b u e with r | ⟨_, r⟩
    · exact (I.hok b u r).stay (fun c v _ q => k c v q) (fun c q => old c _ q) fun c xs q => old c _ q
    · exact r
end
/-- a new list of new pairs -/
def tPairs (ps : List (V × V)) (H1 : Hp) (Q : VK) : Prop := ps.length ≤ sizeLine ∧ ∀ (as : List Addr) (S : Addr), as.length = ps.length → as.Nodup → (∀ b ∈ as, H1 b = none) → S ∉ as → H1 S = none →
  Q (.ref S) (upd (layP H1 (as.zip ps)) S (.lst (as.map V.ref)))
def adr : Value → Addr
  | .ref a => a
  | _ => 0
theorem laid_pairs {X : Cx} {pins : List (Addr × Obj)} {σ : St} {H1 : Hp} {s1 : Shared} {h' : Heap} {t' n c : Nat} {acc : Array Value} {S lo : Addr} {P : Nat → Value → Value → Prop} {ps : List (V × V)} {Q : VK} (I1 : Inv X pins σ H1 s1)
    (hk : ∀ b o, s1.heap.get? b = some o → h'.get? b = some o) (hS : h'.get? S = some { cls := .type "list", dict := none, data := .seq acc c, slots := #[] }) (hSl : s1.heap.objs.size ≤ S) (hI : Its lo P acc h' n) (hlo : s1.heap.objs.size ≤ lo) (hSlo : S < lo)
    (hn : n = ps.length) (hP : ∀ j x y, P j x y → ∃ p, ps[j]? = some p ∧ RelV p.1 x ∧ RelV p.2 y) (q : tPairs ps H1 Q) :
    ∃ x H2, Inv X pins σ H2 { s1 with heap := h', toks := t' } ∧ RelV x (.ref S) ∧ Q x H2 := by
  obtain ⟨hsz, q⟩ := q
  subst hn
  have hz := hI.1
  have hit : ∀ j (v : Value), acc.toList[j]? = some v → ∃ a x y, v = .ref a ∧ h'.get? a = some (tupO x y) ∧ P j x y ∧ lo ≤ a := fun j v e => hI.2.1 j v (by rw [← Array.getElem?_toList]; exact e)
  have hl : (acc.toList.map adr).length = ps.length := by rw [List.length_map, Array.length_toList, hz]
  have hnd : (acc.toList.map adr).Nodup := by
    refine List.pairwise_iff_getElem.mpr fun j k hj hk' hjk e => ?_
    rw [List.length_map] at hj hk'
    simp only [List.getElem_map] at e
    obtain ⟨a, _, _, e1, _⟩ := hit j _ (List.getElem?_eq_getElem hj)
    obtain ⟨b, _, _, e2, _⟩ := hit k _ (List.getElem?_eq_getElem hk')
    rw [e1, e2] at e
    have e' : a = b := e
    have := hI.2.2 j k (.ref a) (by rw [← Array.getElem?_toList, List.getElem?_eq_getElem hj, e1]) (by rw [← Array.getElem?_toList, List.getElem?_eq_getElem hk', e2, e'])
    exact absurd this (Nat.ne_of_lt hjk)
  have hge : ∀ b ∈ acc.toList.map adr, lo ≤ b := fun b hb => by
    obtain ⟨v, hv, rfl⟩ := List.mem_map.mp hb
    obtain ⟨j, hj⟩ := List.mem_iff_getElem?.mp hv
    obtain ⟨a, _, _, e1, _, _, e4⟩ := hit j v hj
    rw [e1]
    exact e4
  have hfst : ((acc.toList.map adr).zip ps).map Prod.fst = acc.toList.map adr := List.map_fst_zip (Nat.le_of_eq hl)
  have hSn : S ∉ acc.toList.map adr := fun hm => absurd (hge S hm) (Nat.not_le.mpr hSlo)
  have fr : ∀ b, s1.heap.objs.size ≤ b → H1 b = none := fun b hb => I1.hok.fresh hb
  refine ⟨.ref S, _, I1.ext hk (fun b o e => ?_) (fun b o e => ?_), rfl, q (acc.toList.map adr) S hl hnd (fun b hb => fr b (Nat.le_trans hlo (hge b hb))) hSn (fr S hSl)⟩
  · rw [upd_ne (ne_of_none e (fr S hSl)), layP_ne (fun hm => by
      rw [hfst] at hm
      rw [fr b (Nat.le_trans hlo (hge b hm))] at e
      cases e)]
    exact e
  · by_cases hb : b = S
    · subst hb
      rw [upd_same] at e
      cases e
      refine .inr ⟨hSl, ?_, acc.toList, c, ?_, by rw [Array.toArray_toList]; exact hS⟩
      · rw [List.length_map, hl]; exact hsz
      · refine vals_of_at (by rw [List.length_map, List.length_map]) fun j x u e1 e2 => ?_
        rw [List.getElem?_map, List.getElem?_map, e2] at e1
        cases e1
        obtain ⟨a, _, _, e3, _⟩ := hit j u e2
        rw [e3]
        rfl
    · rw [upd_ne hb] at e
      rcases layP_some (by rw [hfst]; exact hnd) e with r | ⟨p, hp, r1, r2⟩
      · exact .inl r
      · obtain ⟨j, hj⟩ := List.mem_iff_getElem?.mp hp
        rw [List.getElem?_zip_eq_some] at hj
        obtain ⟨j1, j2⟩ := hj
        rw [List.getElem?_map] at j1
        obtain ⟨v, hv, ev⟩ := Option.map_eq_some_iff.mp j1
        obtain ⟨a, x, y, e3, e4, e5, e6⟩ := hit j v hv
        obtain ⟨p', p1, p2, p3⟩ := hP j x y e5
        rw [j2] at p1
        cases p1
        have ea : a = b := by rw [← r1, ← ev, e3]; rfl
        subst ea r2
        refine .inr ⟨Nat.le_trans hlo e6, by show 2 ≤ sizeLine; decide, [x, y], .cons p2 (.cons p3 .nil), ⟨_, e4, rfl, _, rfl⟩⟩
end DL

/-! E9: list(enumerate(x)), list(zip(x, y)), for and comprehensions over enumerate, zip. -/
namespace DL
open PySem PySem.Spec PyProof.Rows L2
theorem nlt {a b : Nat} (h : b < a) : @Ne Addr a b := Nat.ne_of_gt h
def enV (xs : List V) : List (V × V) := xs.mapIdx fun i x => (V.int (i : Nat), x)
def tListEnum (K : PySem.W.Frag) (te : TE) : TE := fun σ H Q => te σ H fun x H1 => ∃ a xs, x = .ref a ∧ SqL K H1 a xs ∧ tPairs (enV xs) H1 Q
def tListZip (K : PySem.W.Frag) (ta : TA) : TE := fun σ H Q => ta σ H fun vs H1 => ∃ a b xs ys, vs = [.ref a, .ref b] ∧ SqL K H1 a xs ∧ SqL K H1 b ys ∧ tPairs (xs.zip ys) H1 Q
theorem valsAt {xs : List V} {us : List Value} (r : Vals xs us) : ∀ {j : Nat} {u : Value}, us[j]? = some u → ∃ x, xs[j]? = some x ∧ RelV x u := by
  induction r with
  | nil => intro j u e; simp at e
  | cons r1 r2 ih =>
    intro j u e
    cases j with
    | zero => simp only [List.getElem?_cons_zero, Option.some.injEq] at e; subst e; exact ⟨_, rfl, r1⟩
    | succ j => exact ih (by simpa using e)
theorem pe_listEnum {X : Cx} {e : Expr} {te : TE} {p p2 pos pos2 : Pos} (hc : X.calm = true) (hg : Gl X "list") (hm : X.mg "list" = none) (hg2 : Gl X "enumerate") (hm2 : X.mg "enumerate" = none) (he : PE X e te)
    (na : starEach [e] X.env = (false, eval e X.env) :: starEach [] X.env := by rfl)
    (nb : starEach [Expr.Call (.Name "enumerate" p2) [e] [] pos2] X.env = (false, eval (Expr.Call (.Name "enumerate" p2) [e] [] pos2) X.env) :: starEach [] X.env := by rfl) :
    PE X (.Call (.Name "list" p) [.Call (.Name "enumerate" p2) [e] [] pos2] [] pos) (tListEnum X.K te) := by
  refine ⟨fun pins s σ H Q I h => ?_⟩
  refine Call_ (ld_blt I hg hm boot_list (PyProof.Rows.callWith_type1 (args_cons (Call_ (ld_blt I hg2 hm2 boot_enumerate (PyProof.Rows.callWith_type1 (args_cons (thn (he.run pins s σ H _ I h) fun u s1 ⟨x, H1, I1, r1, q1⟩ => args_nil ?_) na) na))) nb) nb))
  obtain ⟨a, xs, ex, hq, q⟩ := q1
  subst ex
  cases r1
  obtain ⟨its, rv, p', hz⟩ := I1.list hq
  have hal : a < s1.heap.objs.size := p'.lt
  refine call_enumerate_list p'.isList fun h' hh hit hsz hk => args_nil ?_
  have wm : ∀ c, c ∈ [s1.heap.objs.size + 1, s1.heap.objs.size] → s1.heap.objs.size ≤ c ∧ c < s1.heap.objs.size + 2 := fun c hcm => by
    have e' : c = s1.heap.objs.size + 1 ∨ c = s1.heap.objs.size := by simpa using hcm
    rcases e' with z | z
    · rw [z]; exact ⟨Nat.le_add_right _ _, Nat.lt_succ_self _⟩
    · rw [z]; exact ⟨Nat.le_refl _, Nat.lt_add_of_pos_right (by decide)⟩
  have n1 : s1.heap.objs.size + 1 ≠ s1.heap.objs.size := Nat.succ_ne_self _
  have na1 : a ≠ s1.heap.objs.size + 1 := Nat.ne_of_lt (Nat.lt_succ_of_lt hal)
  have na2 : a ≠ s1.heap.objs.size := Nat.ne_of_lt hal
  have W := lsrc_enum (prog := X.prog) (w := X.w) (e := s1.heap.objs.size + 1) (it := s1.heap.objs.size) (S := h'.objs.size) (l := a) its.toArray n1 na1 na2 (by rw [hsz]; exact nlt (by omega)) (by rw [hsz]; exact nlt (by omega)) (by rw [hsz]; exact nlt (Nat.lt_of_lt_of_le hal (Nat.le_add_right _ _)))
  refine lsrc_call (s := { s1 with heap := h' }) W en_nolen en_nohint (by decide) (by decide) (I1.ok.hd hc) (by rw [List.size_toArray, ← rv.length]; exact hz) ⟨hit, p'.isList.at fun o e => hk a o e, .inl ⟨_, hh⟩⟩
    (fun b hb => ?_) fun h2 tk acc c hk2 hS hI => ?_
  · show b < h'.objs.size
    rw [hsz]
    exact (wm b hb).2
  · have hlen := rv.length
    refine laid_pairs (s1 := s1) (h' := h2) (lo := h'.objs.size + 1) (n := its.toArray.size) I1 (fun b o e => hk2 b o (fun hm => ?_) (hk b o e)) hS (by rw [hsz]; omega) hI (by rw [hsz]; omega) (Nat.lt_succ_self _) (by unfold enV; rw [List.length_mapIdx, List.size_toArray]; exact hlen.symm) (fun j x y hP => ?_) q
    · exact absurd (Heap.lt_size e) (Nat.not_lt.mpr (wm b hm).1)
    · obtain ⟨⟨t, rfl⟩, hy⟩ := hP
      obtain ⟨v, hv, rv'⟩ := valsAt rv (j := j) (u := y) (by simpa using hy)
      exact ⟨(V.int (j : Nat), v), by unfold enV; rw [List.getElem?_mapIdx, hv]; rfl, ⟨t, rfl⟩, rv'⟩
theorem pe_listZip {X : Cx} {e e2 : Expr} {ta : TA} {p p2 pos pos2 : Pos} (hc : X.calm = true) (hg : Gl X "list") (hm : X.mg "list" = none) (hg2 : Gl X "zip") (hm2 : X.mg "zip" = none) (ha : PA X [e, e2] ta)
    (hs : starEach [e, e2] X.env = (false, eval e X.env) :: starEach [e2] X.env := by rfl) (hpl : (backTo pos2 (starEach [e2] X.env)).any (·.1) = false := by rfl)
    (nb : starEach [Expr.Call (.Name "zip" p2) [e, e2] [] pos2] X.env = (false, eval (Expr.Call (.Name "zip" p2) [e, e2] [] pos2) X.env) :: starEach [] X.env := by rfl) :
    PE X (.Call (.Name "list" p) [.Call (.Name "zip" p2) [e, e2] [] pos2] [] pos) (tListZip X.K ta) := by
  refine ⟨fun pins s σ H Q I h => ?_⟩
  refine Call_ (ld_blt I hg hm boot_list (PyProof.Rows.callWith_type1 (args_cons (Call_ (ld_blt I hg2 hm2 PyProof.Rows.boot_zip (PyProof.Rows.callWith_type1 (thn (ha.run pos2 pins s σ H _ I h) fun us s1 ⟨vs, H1, I1, r1, q1⟩ => ?_) hs hpl))) nb) nb))
  obtain ⟨a, b, xs, ys, ex, hqx, hqy, q⟩ := q1
  subst ex
  cases r1 with
  | cons r rr =>
    cases rr with
    | cons r' rr =>
      cases rr
      cases r
      cases r'
      obtain ⟨its, rv, p1, hz1⟩ := I1.list hqx
      obtain ⟨its2, rv2, p2, hz2⟩ := I1.list hqy
      have hal : a < s1.heap.objs.size := p1.lt
      have hbl : b < s1.heap.objs.size := p2.lt
      refine call_zip_2 p1.isList p2.isList fun h' hz hTI hTO h1 h2 hsz hk => args_nil ?_
      have W := lsrc_zip (prog := X.prog) (w := X.w) (S := h'.objs.size) (PySem.W.ktu_apart s1.heap.objs.size a b p1.lt p2.lt) its.toArray its2.toArray (by rw [hsz]; exact nlt (by omega)) (by rw [hsz]; exact nlt (by omega)) (by rw [hsz]; exact nlt (by omega)) (by rw [hsz]; exact nlt (by omega)) (by rw [hsz]; exact nlt (by omega))
        (by rw [hsz]; exact nlt (Nat.lt_of_lt_of_le hal (Nat.le_add_right _ _))) (by rw [hsz]; exact nlt (Nat.lt_of_lt_of_le hbl (Nat.le_add_right _ _)))
      have hl1 := rv.length
      have hl2 := rv2.length
      have wm : ∀ c, c ∈ [s1.heap.objs.size + 4, s1.heap.objs.size + 3, s1.heap.objs.size, s1.heap.objs.size + 1] → s1.heap.objs.size ≤ c ∧ c < s1.heap.objs.size + 5 := fun c hcm => by
        have e' : c = s1.heap.objs.size + 4 ∨ c = s1.heap.objs.size + 3 ∨ c = s1.heap.objs.size ∨ c = s1.heap.objs.size + 1 := by simpa using hcm
        rcases e' with z | z | z | z
        · rw [z]; exact ⟨Nat.le_add_right _ _, Nat.lt_succ_self _⟩
        · rw [z]; exact ⟨Nat.le_add_right _ _, Nat.add_lt_add_left (by decide) _⟩
        · rw [z]; exact ⟨Nat.le_refl _, Nat.lt_add_of_pos_right (by decide)⟩
        · rw [z]; exact ⟨Nat.le_add_right _ _, Nat.add_lt_add_left (by decide) _⟩
      refine lsrc_call (s := { s1 with heap := h' }) W zi_nolen zi_nohint (by decide) (by decide) (I1.ok.hd hc) (Nat.le_trans (Nat.min_le_left _ _) (by rw [List.size_toArray, ← hl1]; exact hz1)) ⟨hTI, h1, h2, p1.isList.at fun o e => hk a o e, p2.isList.at fun o e => hk b o e, .inl ⟨hz, _, _, hTO⟩⟩
        (fun c hcm => ?_) fun h2 tk acc c hk2 hS hI => ?_
      · show c < h'.objs.size
        rw [hsz]
        exact (wm c hcm).2
      · refine laid_pairs (s1 := s1) (h' := h2) (lo := h'.objs.size + 1) (n := min its.toArray.size its2.toArray.size) I1 (fun c o e => hk2 c o (fun hm => ?_) (hk c o e)) hS (by rw [hsz]; omega) hI (by rw [hsz]; omega) (Nat.lt_succ_self _) (by rw [List.length_zip, List.size_toArray, List.size_toArray, hl1, hl2]) (fun j x y hP => ?_) q
        · exact absurd (Heap.lt_size e) (Nat.not_lt.mpr (wm c hm).1)
        · obtain ⟨hx, hy⟩ := hP
          obtain ⟨v, hv, rv'⟩ := valsAt rv (j := j) (u := x) (by simpa using hx)
          obtain ⟨u, hu, ru'⟩ := valsAt rv2 (j := j) (u := y) (by simpa using hy)
          exact ⟨(v, u), by rw [List.getElem?_zip_eq_some]; exact ⟨hv, hu⟩, rv', ru'⟩
end DL

/-! E10: enumerate and zip, as data. -/
namespace DL
open PySem PySem.Spec PyProof.Rows L2

/-! ### enumerate(a tuple) -/
set_option maxHeartbeats 1000000 in
theorem meets_enum1 {v : Value} {o : Obj} {H : Heap → Prop} (B : Begins v o H) :
    Meets (Builtin.«enumerate.__new__» ⟨[.type "enumerate", v], []⟩) (fun _ R s => H s.heap ∧
      R (.ok (.ret (.ref (s.heap.push o).objs.size))) { s with heap := (s.heap.push o).push { cls := .type "enumerate", data := .fields #[.none, .bool false, .ref s.heap.objs.size, rawInt 0, .none, .none] } }) :=
  .of_wp fun prog w A R s h => by
    obtain ⟨hp, g, d, tk, os⟩ := s; obtain ⟨h1, h⟩ := h
    have hsub := sub_enumerate
    have q1 : ∀ {A' : Around} {E : Value → Shared → Prop} {Q : Value → Shared → Prop}, Q (.ref hp.objs.size) ⟨hp.push o, g, d, tk, os⟩ → wpAny (model prog w) A' (pyIter v) Q E ⟨hp, g, d, tk, os⟩ :=
      fun q => B.iter prog w _ _ ⟨hp, g, d, tk, os⟩ _ h1 q
    wp_walk using q1
    refine wpAny_stack_any fun st => wpAny_pure ?_
    split
    · rename_i c _ _ _ _ _
      cases (c == Value.type "enumerate")
      · wp_walk using q1
        exact ⟨_, rfl, h⟩
      · wp_walk using q1
        exact ⟨_, rfl, h⟩
    · wp_walk using q1
      exact ⟨_, rfl, h⟩
section
variable {prog : Program} {w : World} {A : Around} {E : Value → Shared → Prop} {s : Shared}
theorem enum_begins1 {v : Value} {o : Obj} {H : Heap → Prop} {Q : Value → Shared → Prop} (B : Begins v o H) (h1 : H s.heap)
    (h : ∀ h', IsEnum h' (s.heap.objs.size + 1) s.heap.objs.size 0 .none → h'.get? s.heap.objs.size = some o → h'.objs.size = s.heap.objs.size + 2 →
      (∀ b o, s.heap.get? b = some o → h'.get? b = some o) → Q (.ref (s.heap.objs.size + 1)) { s with heap := h' }) :
    wpAny (model prog w) A (call (.type "enumerate") [v]) Q E s := by
  refine callType_new F.called_enumerate (by decide) (F.typeCall_enumerate_1 _) (F.newCall_enumerate_1 _) (fun obj => F.args_object_init_2 obj _) F.entry_enumerate_new
    (meets_enum1 B) ⟨h1, ?_⟩
  have hz : (s.heap.push o).objs.size = s.heap.objs.size + 1 := Heap.size_push ..
  show _ ∧ _
  rw [hz]
  have he : IsEnum ((s.heap.push o).push { cls := .type "enumerate", data := .fields #[.none, .bool false, .ref s.heap.objs.size, rawInt 0, .none, .none] }) (s.heap.objs.size + 1) s.heap.objs.size 0 .none := by
    have := Heap.get?_push_size (s.heap.push o) (o := { cls := .type "enumerate", data := .fields #[.none, .bool false, .ref s.heap.objs.size, rawInt 0, .none, .none] }) rfl
    rw [hz] at this; exact this
  refine ⟨⟨_, he, rfl⟩, h _ he (Heap.get?_push_of_some _ (Heap.get?_push_size _ B.free)) (by rw [Heap.size_push, hz]) fun b o x => Heap.get?_push_of_some _ (Heap.get?_push_of_some _ x)⟩
end
/-- the tuple at a as it stands at each turn, each item in a new pair -/
def IteT (K : PySem.W.Frag) (a : Addr) : It :=
  ⟨fun i H => ∃ (xs : List V) (x : V), SqT K H a xs ∧ xs[i]? = some x, fun i H v H' => ∃ T x, v = .ref T ∧ H T = none ∧ H' = upd H T (.tup [.int (i : Nat), x]) ∧ ∀ xs, SqT K H a xs → xs[i]? = some x, fun i H => ∃ xs : List V, SqT K H a xs ∧ xs.length ≤ i⟩
theorem turn_enumT {P : Program} {w : World} {K : PySem.W.Frag} {elts : List Expr} {kk : Nat} {tpos : Pos} (a e it : Addr) :
    Turn P w K (.Tuple elts kk tpos) (IteT K a) [e, it] e (fun i h => (∃ old, IsEnum h e it ((i : Nat) : Int) old) ∧ h.IsTupleIter it a i ∧ e ≠ it ∧ a ≠ e ∧ a ≠ it) where
  mem := by simp
  obj := fun i h st b hb => by
    obtain ⟨⟨old, he⟩, ⟨o, ho, hc, hd⟩, _⟩ := st
    have e' : b = e ∨ b = it := by simpa using hb
    rcases e' with z | z
    · rw [z]; exact ⟨_, he, fun v q => nomatch q⟩
    · rw [z]; exact ⟨o, ho, fun v q => by rw [hd] at q; cases q⟩
  keep := fun i h h' st k => let ⟨⟨old, he⟩, hi, hne⟩ := st; ⟨⟨old, k e (by simp) _ he⟩, hi.at fun o q => k it (by simp) o q, hne⟩
  item := by
    intro X hP hw hK hc i pins s σ H E I hf st hg
    subst hP hw hK
    obtain ⟨⟨old, he⟩, hit, hne, hae, hai⟩ := st
    obtain ⟨xs, x, hq, hx⟩ := hg
    obtain ⟨its, rv, p, hz⟩ := I.tuple hq
    obtain ⟨u, hu, ru⟩ := rv.get hx
    have hel : e < s.heap.objs.size := Heap.lt_size he
    have hil : it < s.heap.objs.size := by obtain ⟨_, q, _⟩ := hit; exact Heap.lt_size q
    have hlt : i < its.toArray.size := by rw [List.size_toArray]; exact (List.getElem?_eq_some_iff.mp hu).1
    refine wpAny_pyNext_enum_itemD (Draws.tuple (A := X.A.in1) (I.ok.hd hc) it a hai its.toArray) he ⟨hit, p⟩ hlt hne (by simp; exact ⟨hne, fun z => hae z.symm⟩) fun y h' tk hPy ho hst' hT hsz hk => ?_
    have hyu : y = u := by
      have : its.toArray[i]? = some u := by simpa using hu
      rw [this] at hPy
      exact (Option.some.inj hPy).symm
    subst hyu
    obtain ⟨hit', _⟩ := hst'
    refine ⟨_, rfl, wpAny_letOwnedTupleGo_enum (s := { s with heap := h', toks := tk + 1 }) ho fun h'' he' sb => ?_⟩
    have hT2 : h''.get? s.heap.objs.size = some { cls := .type "tuple", data := .seq #[.int i tk, y] } := (sb.2 _ (Nat.ne_of_gt hel)).trans hT
    have new : ObjOk X.prog X.w (upd H s.heap.objs.size (.tup [.int (i : Nat), x])) h'' s.heap.objs.size (.tup [.int (i : Nat), x]) :=
      ⟨by show 2 ≤ sizeLine; decide, [.int i tk, y], .cons ⟨_, rfl⟩ (.cons ru .nil), ⟨_, hT2, rfl, _, rfl⟩⟩
    have I1 : Inv X pins σ (upd H s.heap.objs.size (.tup [.int (i : Nat), x])) { s with heap := h'', toks := tk + 1 } :=
      I.turnedNew (ch := [e, it]) (fun b ob hb q => (sb.2 b (fun z => hb (by simp [z]))).trans (hk b ob (fun z => hb (by simp [z])) (fun z => hb (by simp [z])) q)) hf (Nat.le_refl _) new
    refine ⟨.ref s.heap.objs.size, _, I1, rfl, ⟨_, x, rfl, I.hok.fresh (Nat.le_refl _), rfl, fun ys hy => by rw [I.tuple_inj hy hq]; exact hx⟩, ⟨⟨y, ?_⟩, hit'.at fun o q => (sb.2 it (Ne.symm hne)).trans q, hne, hae, hai⟩, fun b hb => ?_⟩
    · have e1 : ((i + 1 : Nat) : Int) = (i : Int) + 1 := by omega
      rw [e1]; exact he'
    · have hb' : b < s.heap.objs.size := by
        have e' : b = e ∨ b = it := by simpa using hb
        rcases e' with z | z
        · rw [z]; exact hel
        · rw [z]; exact hil
      rw [upd_ne (Nat.ne_of_lt hb')]
      exact (hf b hb).1
  done := by
    intro X hP hw hK hc i pins s σ H E I hf st hg
    subst hP hw hK
    obtain ⟨⟨old, he⟩, hit, hne, hae, hai⟩ := st
    obtain ⟨xs, hq, hx⟩ := hg
    obtain ⟨its, rv, p, hz⟩ := I.tuple hq
    obtain ⟨f0, f1, f2, f3, f4, f5⟩ := hf it (by simp)
    have hl := rv.length
    have hT : s.TypeIs (.ref e) "enumerate" := ⟨_, he, rfl⟩
    unfold pyNext
    refine wpAny_bind (wpAny_attempt (wpAny_callSpecial?_slot (name := Str.ofString "__next__") hT F.slot_enumerate_next
      (wpAny_call_entry F.slot_enumerate_next hT F.entry_enumerate_next ?_ (F.args_enumerate_next_1 _))))
    show wpAny _ _ (field (.ref e) 2 >>= _) _ _ _
    refine wpAny_bind (wpAny_field he rfl (x := .ref it) rfl ?_)
    refine wpAny_bind (RZ.nextOf_tuple_end (items := its.toArray) (I.ok.hd hc) hit p (by simp; omega) fun h' x he' hx' => ?_)
    obtain ⟨o, ho, hcl⟩ := hx'
    refine wpAny_bind (wpAny_isInstance (T := "StopIteration") (b := true) ⟨o, ho, hcl⟩ isSubtype_stop ?_)
    exact wpAny_pure ⟨rfl, I.turned (t' := s.toks) (fun b o hb q => he' b o hb q) f0 f1 f3 f4 f5⟩
  self := fun A i s Q E st h => let ⟨⟨_, he⟩, _⟩ := st; wpAny_pyIter_enum he h
def iEnumA (K : PySem.W.Frag) (ta : TA) : TI := fun σ H R => ta σ H fun vs H1 => ∃ a xs, vs = [.ref a] ∧ ((SqL K H1 a xs ∧ R (Ite K a) H1) ∨ (SqT K H1 a xs ∧ R (IteT K a) H1))
theorem pi_enumA {X : Cx} {e : Expr} {ta : TA} {p pos tpos : Pos} {elts : List Expr} {kk : Nat} (hg : Gl X "enumerate") (hm : X.mg "enumerate" = none) (ha : PA X [e] ta) (hs : starEach [e] X.env = [(false, eval e X.env)] := by rfl) :
    PI X (.Tuple elts kk tpos) (.Call (.Name "enumerate" p) [e] [] pos) (iEnumA X.K ta) := by
  refine ⟨fun pins s σ H R I h => ?_⟩
  refine Call_ (ld_blt I hg hm boot_enumerate (PyProof.Rows.callWith_type1 (thn (ha.run pos pins s σ H _ I h) fun us s1 ⟨vs, H1, I1, r1, q1⟩ => ?_) hs rfl))
  obtain ⟨a, xs, ex, q1⟩ := q1
  subst ex
  cases r1 with
  | cons r rr =>
    cases rr
    cases r
    have fresh : ∀ b, b ∈ [s1.heap.objs.size + 1, s1.heap.objs.size] → FpOk X pins H1 b := fun b hb => by
      have e' : b = s1.heap.objs.size + 1 ∨ b = s1.heap.objs.size := by simpa using hb
      have hle : s1.heap.objs.size ≤ b := by
        rcases e' with z | z
        · rw [z]; exact Nat.le_add_right _ _
        · rw [z]; exact Nat.le_refl _
      exact I1.fpOk hle (I1.hok.fresh hle)
    rcases q1 with ⟨hq, q⟩ | ⟨hq, q⟩
    · obtain ⟨its, rv, p', hz⟩ := I1.list hq
      refine call_enumerate_list p'.isList fun h' he hit hsz hk => wpAny_pyIter_enum he ?_
      have I2 : Inv X pins σ H1 { s1 with heap := h' } := I1.kept (t' := s1.toks) hk
      exact ⟨s1.heap.objs.size + 1, [s1.heap.objs.size + 1, s1.heap.objs.size], _, _, H1, rfl, I2, turn_enum a (s1.heap.objs.size + 1) s1.heap.objs.size, ⟨⟨.none, he⟩, hit, Nat.succ_ne_self _⟩, fresh, q⟩
    · obtain ⟨its, rv, p', hz⟩ := I1.tuple hq
      have hal : a < s1.heap.objs.size := by obtain ⟨_, q, _⟩ := id p'; exact Heap.lt_size q
      refine enum_begins1 (begins_tuple a its.toArray) p' fun h' he hit hsz hk => wpAny_pyIter_enum he ?_
      have I2 : Inv X pins σ H1 { s1 with heap := h' } := I1.kept (t' := s1.toks) hk
      exact ⟨s1.heap.objs.size + 1, [s1.heap.objs.size + 1, s1.heap.objs.size], _, _, H1, rfl, I2, turn_enumT a (s1.heap.objs.size + 1) s1.heap.objs.size, ⟨⟨.none, he⟩, ⟨_, hit, rfl, rfl⟩, Nat.succ_ne_self _, Nat.ne_of_lt (Nat.lt_succ_of_lt hal), Nat.ne_of_lt hal⟩, fresh, q⟩

/-! ### as data -/
def enD (xs : List D) : List D := xs.mapIdx fun i x => .tup [.int (i : Nat), x]
def zipD (xs ys : List D) : List D := List.zipWith (fun x y => .tup [x, y]) xs ys
theorem enD_len (xs : List D) : (enD xs).length = xs.length := by unfold enD; rw [List.length_mapIdx]
def iEn (f : EE) : EL := fun env S => (f env S).bind fun d S => match seqD d with
  | some ds => .ok (enD ds) S
  | none => .stuck
/-- both lists, or both tuples -/
def two : D → D → Option (List D × List D)
  | .lst xs, .lst ys => some (xs, ys)
  | .tup xs, .tup ys => some (xs, ys)
  | _, _ => none
def iZi (f g : EE) : EL := fun env S => (f env S).bind fun d S => (g env S).bind fun e S => match two d e with
  | some p => .ok (zipD p.1 p.2) S
  | none => .stuck
section
variable {K : Kt} {c : Bas} {a b : Addr} {ds es : List D} {vs ws : List V}
theorem walkD_new {J : It} {out : List D} (n : Nat) (hn : out.length = n) (hz : n ≤ sizeLine) (go : ∀ i c' S', Adv c c' → Sok K c' S' → i < n → J.go i c'.H) (stop : ∀ c' S', Adv c c' → Sok K c' S' → J.stop n c'.H)
    (y : ∀ i c' S' v H', Adv c c' → Sok K c' S' → i < n → J.yld i c'.H v H' → ∃ T x y dx dy, v = .ref T ∧ c'.H T = none ∧ H' = upd c'.H T (.tup [x, y]) ∧ out[i]? = some (.tup [dx, dy]) ∧ Rp K c'.F c'.ι dx x ∧ Rp K c'.F c'.ι dy y) : WalkD K c J out where
  len := by rw [hn]; exact hz
  go := fun i c' S' ad ok hi => go i c' S' ad ok (by rw [← hn]; exact hi)
  stop := fun c' S' ad ok => by rw [hn]; exact stop c' S' ad ok
  yld := fun i c' S' v H' ad ok hi h => by
    obtain ⟨T, x, y, dx, dy, e1, e2, e3, e4, r1, r2⟩ := y i c' S' v H' ad ok (by rw [← hn]; exact hi) h
    subst e1 e3
    obtain ⟨s2, o2, r⟩ := new_tup (ds := [dx, dy]) (vs := [x, y]) ok e2 (by show 2 ≤ sizeLine; decide) ⟨x, [y], rfl, r1, y, [], rfl, r2, rfl⟩
    exact ⟨_, _, e4, s2, o2, r⟩
theorem enD_get {xs : List D} {i : Nat} {d : D} (h : xs[i]? = some d) : (enD xs)[i]? = some (.tup [.int (i : Nat), d]) := by
  unfold enD
  rw [List.getElem?_mapIdx, h]
  rfl
theorem walkD_en (h : SqL K c.F a vs) (hl : vs.length ≤ sizeLine) (r : RpAll K c.F c.ι ds vs) : WalkD K c (Ite K a) (enD ds) :=
  walkD_new ds.length (enD_len ds) (by rw [← r.len]; exact hl) (fun i c' S' ad ok hi => by
      obtain ⟨v, hv, _⟩ := r.get (List.getElem?_eq_getElem hi)
      exact ⟨vs, v, ok.f.seq (ad.same.seq h), hv⟩) (fun c' S' ad ok => ⟨vs, ok.f.seq (ad.same.seq h), by rw [r.len]; exact Nat.le_refl _⟩) fun i c' S' v H' ad ok hi ⟨T, x, e1, e2, e3, e4⟩ => by
    obtain ⟨d, hd, rd⟩ := r.get' (e4 vs (ok.f.seq (ad.same.seq h)))
    exact ⟨T, _, x, .int (i : Nat), d, e1, e2, e3, enD_get hd, rfl, ad.rp rd⟩
theorem walkD_enT (h : SqT K c.F a vs) (hl : vs.length ≤ sizeLine) (r : RpAll K c.F c.ι ds vs) : WalkD K c (IteT K a) (enD ds) :=
  walkD_new ds.length (enD_len ds) (by rw [← r.len]; exact hl) (fun i c' S' ad ok hi => by
      obtain ⟨v, hv, _⟩ := r.get (List.getElem?_eq_getElem hi)
      exact ⟨vs, v, same_t ok.f (same_t ad.same h), hv⟩) (fun c' S' ad ok => ⟨vs, same_t ok.f (same_t ad.same h), by rw [r.len]; exact Nat.le_refl _⟩) fun i c' S' v H' ad ok hi ⟨T, x, e1, e2, e3, e4⟩ => by
    obtain ⟨d, hd, rd⟩ := r.get' (e4 vs (same_t ok.f (same_t ad.same h)))
    exact ⟨T, _, x, .int (i : Nat), d, e1, e2, e3, enD_get hd, rfl, ad.rp rd⟩
theorem zipD_get {xs ys : List D} {i : Nat} {d e : D} (h : xs[i]? = some d) (h' : ys[i]? = some e) : (zipD xs ys)[i]? = some (.tup [d, e]) := by
  unfold zipD
  rw [List.getElem?_zipWith, h, h']
theorem zipD_len (xs ys : List D) : (zipD xs ys).length = min xs.length ys.length := by unfold zipD; rw [List.length_zipWith]
theorem walkD_zi (h : SqL K c.F a vs) (h' : SqL K c.F b ws) (hl : vs.length ≤ sizeLine) (r : RpAll K c.F c.ι ds vs) (r' : RpAll K c.F c.ι es ws) : WalkD K c (Itz K a b) (zipD ds es) :=
  walkD_new (min ds.length es.length) (zipD_len ds es) (Nat.le_trans (Nat.min_le_left _ _) (by rw [← r.len]; exact hl)) (fun i c' S' ad ok hi => by
      obtain ⟨v, hv, _⟩ := r.get (List.getElem?_eq_getElem (Nat.lt_of_lt_of_le hi (Nat.min_le_left _ _)))
      obtain ⟨w, hw, _⟩ := r'.get (List.getElem?_eq_getElem (Nat.lt_of_lt_of_le hi (Nat.min_le_right _ _)))
      exact ⟨vs, ws, v, w, ok.f.seq (ad.same.seq h), ok.f.seq (ad.same.seq h'), hv, hw⟩) (fun c' S' ad ok => ⟨vs, ws, ok.f.seq (ad.same.seq h), ok.f.seq (ad.same.seq h'), by rw [r.len, r'.len]; omega⟩) fun i c' S' v H' ad ok hi ⟨T, x, y, e1, e2, e3, e4, e5⟩ => by
    obtain ⟨d, hd, rd⟩ := r.get' (e4 vs (ok.f.seq (ad.same.seq h)))
    obtain ⟨d', hd', rd'⟩ := r'.get' (e5 ws (ok.f.seq (ad.same.seq h')))
    exact ⟨T, x, y, d, d', e1, e2, e3, zipD_get hd hd', ad.rp rd, ad.rp rd'⟩
theorem walkD_ziT (h : SqT K c.F a vs) (h' : SqT K c.F b ws) (hl : vs.length ≤ sizeLine) (r : RpAll K c.F c.ι ds vs) (r' : RpAll K c.F c.ι es ws) : WalkD K c (RZ.ItzT K a b) (zipD ds es) :=
  walkD_new (min ds.length es.length) (zipD_len ds es) (Nat.le_trans (Nat.min_le_left _ _) (by rw [← r.len]; exact hl)) (fun i c' S' ad ok hi => by
      obtain ⟨v, hv, _⟩ := r.get (List.getElem?_eq_getElem (Nat.lt_of_lt_of_le hi (Nat.min_le_left _ _)))
      obtain ⟨w, hw, _⟩ := r'.get (List.getElem?_eq_getElem (Nat.lt_of_lt_of_le hi (Nat.min_le_right _ _)))
      exact ⟨vs, ws, v, w, same_t ok.f (same_t ad.same h), same_t ok.f (same_t ad.same h'), hv, hw⟩) (fun c' S' ad ok => ⟨vs, ws, same_t ok.f (same_t ad.same h), same_t ok.f (same_t ad.same h'), by rw [r.len, r'.len]; omega⟩) fun i c' S' v H' ad ok hi ⟨T, x, y, e1, e2, e3, e4, e5⟩ => by
    obtain ⟨d, hd, rd⟩ := r.get' (e4 vs (same_t ok.f (same_t ad.same h)))
    obtain ⟨d', hd', rd'⟩ := r'.get' (e5 ws (same_t ok.f (same_t ad.same h')))
    exact ⟨T, x, y, d, d', e1, e2, e3, zipD_get hd hd', ad.rp rd, ad.rp rd'⟩
end
section
variable {X : Cx} {K : Kt} {B : Bg} {e e2 : Expr} {f g : EE} {p p2 pos pos2 tpos : Pos} {elts : List Expr} {kk : Nat}
theorem i_enum (hK : kt X = K) (hg : Gl X "enumerate") (hm : X.mg "enumerate" = none) (h : PE X e (tD K B f)) (hs : starEach [e] X.env = [(false, eval e X.env)] := by rfl) :
    PI X (.Tuple elts kk tpos) (.Call (.Name "enumerate" p) [e] [] pos) (tI K B (iEn f)) := by
  subst hK
  refine (pi_enumA hg hm (pa_cons h pa_nil (hs := hs)) hs).imp fun σ H R ⟨F, ι, S, env, st, z0⟩ => ?_
  refine ⟨F, ι, S, env, st, Post.bind_imp z0 fun d S1 z1 v c1 s1 o1 r1 => ?_⟩
  obtain ⟨ds, S', e, q⟩ := Post.nr z1 (by intro x0 S0 zz; first | (cases zz; done) | (split at zz <;> first | (cases zz; done) | (split at zz <;> first | (cases zz; done) | (split at zz <;> first | (cases zz; done) | (split at zz <;> cases zz))))); clear z0 z1
  cases d with
  | lst xs =>
    cases e
    obtain ⟨a, vs, ev, h1, hl, h2⟩ := r1
    exact ⟨a, vs, by rw [ev], .inl ⟨o1.f.seq h1, q _ c1 s1 o1 (walkD_en h1 hl h2)⟩⟩
  | tup xs =>
    cases e
    obtain ⟨a, vs, ev, h1, hl, h2⟩ := r1
    exact ⟨a, vs, by rw [ev], .inr ⟨same_t o1.f h1, q _ c1 s1 o1 (walkD_enT h1 hl h2)⟩⟩
  | non => cases e
  | bl b => cases e
  | int b => cases e
  | str b => cases e
  | mu b => cases e
  | ty b => cases e
  | dct ks xs => cases e
  | exn c ns xs => cases e
  | obj c ns xs => cases e
theorem i_zip (hK : kt X = K) (hg : Gl X "zip") (hm : X.mg "zip" = none) (h : PE X e (tD K B f)) (h' : PE X e2 (tD K B g)) (hs : starEach [e, e2] X.env = (false, eval e X.env) :: starEach [e2] X.env := by rfl)
    (hs2 : starEach [e2] X.env = (false, eval e2 X.env) :: starEach [] X.env := by rfl) (hpl : (backTo pos (starEach [e2] X.env)).any (·.1) = false := by rfl) :
    PI X (.Tuple elts kk tpos) (.Call (.Name "zip" p) [e, e2] [] pos) (tI K B (iZi f g)) := by
  subst hK
  refine (RZ.pi_zipA hg hm (pa_cons h (pa_cons h' pa_nil (hs := hs2)) (hs := hs)) hs hpl).imp fun σ H R ⟨F, ι, S, env, st, z0⟩ => ?_
  refine ⟨F, ι, S, env, st, Post.bind_imp z0 fun d S1 z1 v c1 s1 o1 r1 => ?_⟩
  refine ⟨c1.F, c1.ι, S1, env, st.step s1 o1, Post.bind_imp z1 fun d2 S2 z2 v2 c2 s2 o2 r2 => ?_⟩
  obtain ⟨ds, S', e, q⟩ := Post.nr z2 (by intro x0 S0 zz; first | (cases zz; done) | (split at zz <;> first | (cases zz; done) | (split at zz <;> first | (cases zz; done) | (split at zz <;> first | (cases zz; done) | (split at zz <;> cases zz))))); clear z0 z1 z2
  split at e
  · rename_i pp hp
    cases e
    have r1' := s2.rp r1
    unfold two at hp
    split at hp
    · cases hp
      obtain ⟨a, vs, rfl, h1, hl, h2⟩ := r1'
      obtain ⟨b, ws, rfl, h1', hl', h2'⟩ := r2
      exact ⟨a, b, vs, ws, rfl, .inl ⟨o2.f.seq h1, o2.f.seq h1', q _ c2 (s1.trans s2) o2 (walkD_zi h1 h1' hl h2 h2')⟩⟩
    · cases hp
      obtain ⟨a, vs, rfl, h1, hl, h2⟩ := r1'
      obtain ⟨b, ws, rfl, h1', hl', h2'⟩ := r2
      exact ⟨a, b, vs, ws, rfl, .inr ⟨same_t o2.f h1, same_t o2.f h1', q _ c2 (s1.trans s2) o2 (walkD_ziT h1 h1' hl h2 h2')⟩⟩
    · cases hp
  · cases e
/-! list(enumerate(x)), list(zip(x, y)), of lists -/
theorem lay_pairs {c : Bas} {S : Sto} (ok : Sok K c S) : ∀ (L : List (Addr × V × V)) (es : List (D × D)), (L.map Prod.fst).Nodup → (∀ p ∈ L, c.H p.1 = none) → L.length = es.length →
    (∀ (i : Nat) (p : Addr × V × V) (e : D × D), L[i]? = some p → es[i]? = some e → Rp K c.F c.ι e.1 p.2.1 ∧ Rp K c.F c.ι e.2 p.2.2) →
    Step c ⟨layP c.F L, c.ι, layP c.H L⟩ ∧ Sok K ⟨layP c.F L, c.ι, layP c.H L⟩ S ∧ RpAll K (layP c.F L) c.ι (es.map fun e => .tup [e.1, e.2]) (L.map fun p => .ref p.1)
  | [], [], _, _, _, _ => ⟨Step.refl c, ok, rfl⟩
  | p :: L, [], _, _, h, _ => by cases h
  | [], e :: es, _, _, h, _ => by cases h
  | p :: L, e :: es, hn, hf, hl, hr => by
    rw [List.map_cons, List.nodup_cons] at hn
    obtain ⟨s1, o1, r1⟩ := lay_pairs ok L es hn.2 (fun q hq => hf q (List.mem_cons_of_mem _ hq)) (by simpa using hl) fun i q e' h1 h2 => hr (i + 1) q e' (by simpa using h1) (by simpa using h2)
    obtain ⟨ra, rb⟩ := hr 0 p e rfl rfl
    have hp : (Bas.mk (layP c.F L) c.ι (layP c.H L)).H p.1 = none := by
      show layP c.H L p.1 = none
      rw [layP_ne hn.1]
      exact hf p List.mem_cons_self
    obtain ⟨s2, o2, r2⟩ := new_tup (ds := [e.1, e.2]) (vs := [p.2.1, p.2.2]) o1 hp (by show 2 ≤ sizeLine; decide) ⟨_, _, rfl, s1.rp ra, _, _, rfl, s1.rp rb, rfl⟩
    exact ⟨s1.trans s2, o2, _, _, rfl, r2, s2.rpAll r1⟩
theorem new_pairs {c c0 : Bas} {S : Sto} {ps : List (V × V)} {es : List (D × D)} {Q : VK} (ok : Sok K c S) (s0 : Step c0 c) (hl : ps.length ≤ sizeLine) (hn : ps.length = es.length)
    (hr : ∀ (i : Nat) (p : V × V) (e : D × D), ps[i]? = some p → es[i]? = some e → Rp K c.F c.ι e.1 p.1 ∧ Rp K c.F c.ι e.2 p.2)
    (q : ∀ v c', Step c0 c' → Sok K c' S → NewAt K c0 c' (es.map fun e => .tup [e.1, e.2]) v → Q v c'.H) : tPairs ps c.H Q := by
  refine ⟨hl, fun as A hla hnd hf hA hAn => ?_⟩
  have hfst : (as.zip ps).map Prod.fst = as := List.map_fst_zip (Nat.le_of_eq hla)
  obtain ⟨s1, o1, r1⟩ := lay_pairs ok (as.zip ps) es (by rw [hfst]; exact hnd) (fun p hp => hf p.1 (by rw [← hfst]; exact List.mem_map.mpr ⟨p, hp, rfl⟩)) (by rw [List.length_zip, hla, Nat.min_self, hn]) fun i p e h1 h2 => by
    rw [List.getElem?_zip_eq_some] at h1
    exact hr i p.2 e h1.2 h2
  have hp : (Bas.mk (layP c.F (as.zip ps)) c.ι (layP c.H (as.zip ps))).H A = none := by
    show layP c.H (as.zip ps) A = none
    rw [layP_ne (by rw [hfst]; exact hA)]
    exact hAn
  have e1 : ((as.zip ps).map fun p => V.ref p.1) = as.map V.ref := by
    conv => rhs; rw [← hfst]
    rw [List.map_map]
    rfl
  rw [e1] at r1
  obtain ⟨s2, o2, n2⟩ := new_lst o1 hp (by rw [List.length_map, hla]; exact hl) r1
  exact q _ ⟨_, _, _⟩ ((s0.trans s1).trans s2) o2 (n2.from (s0.trans s1))
def eListEn (f : EE) : EL := fun env S => (f env S).bind fun d S => match d with
  | .lst ds => .ok (enD ds) S
  | _ => .stuck
def eListZi (f g : EE) : EL := fun env S => (f env S).bind fun d S => (g env S).bind fun e S => match d, e with
  | .lst xs, .lst ys => .ok (zipD xs ys) S
  | _, _ => .stuck
theorem n_listEn (hc : X.calm = true) (hK : kt X = K) (hg : Gl X "list") (hm : X.mg "list" = none) (hg2 : Gl X "enumerate") (hm2 : X.mg "enumerate" = none) (h : PE X e (tB K B f))
    (na : starEach [e] X.env = (false, eval e X.env) :: starEach [] X.env := by rfl)
    (nb : starEach [Expr.Call (.Name "enumerate" p2) [e] [] pos2] X.env = (false, eval (Expr.Call (.Name "enumerate" p2) [e] [] pos2) X.env) :: starEach [] X.env := by rfl) :
    PE X (.Call (.Name "list" p) [.Call (.Name "enumerate" p2) [e] [] pos2] [] pos) (tN K B (eListEn f)) := by
  subst hK
  refine (pe_listEnum hc hg hm hg2 hm2 h na nb).imp fun σ H Q ⟨F, ι, S, env, st, z0⟩ => ?_
  refine ⟨F, ι, S, env, st, Post.bind_imp z0 fun d S1 z1 v c1 s1 o1 r1 => ?_⟩
  obtain ⟨ds, S', e, q⟩ := Post.nr z1 (by intro x0 S0 zz; first | (cases zz; done) | (split at zz <;> first | (cases zz; done) | (split at zz <;> first | (cases zz; done) | (split at zz <;> first | (cases zz; done) | (split at zz <;> cases zz))))); clear z0 z1
  split at e
  · rename_i xs
    cases e
    obtain ⟨a, vs, ev, h1, hl, h2⟩ := r1.lst o1
    refine ⟨a, vs, ev, h1, ?_⟩
    have ee : enD xs = (xs.mapIdx fun i x => (D.int (i : Nat), x)).map fun e => D.tup [e.1, e.2] := by
      refine List.ext_getElem? fun i => ?_
      unfold enD
      rw [List.getElem?_map, List.getElem?_mapIdx, List.getElem?_mapIdx, Option.map_map]
      rfl
    rw [ee] at q
    refine new_pairs o1 s1 (by unfold enV; rw [List.length_mapIdx]; exact hl) (by unfold enV; rw [List.length_mapIdx, List.length_mapIdx]; exact h2.len) (fun i p e g1 g2 => ?_) q
    unfold enV at g1
    rw [List.getElem?_mapIdx] at g1 g2
    obtain ⟨x, hx, rfl⟩ := Option.map_eq_some_iff.mp g1
    obtain ⟨d, hd, rfl⟩ := Option.map_eq_some_iff.mp g2
    obtain ⟨x', hx', rx⟩ := h2.get hd
    rw [hx] at hx'
    cases hx'
    exact ⟨rfl, rx⟩
  · cases e
theorem n_listZi (hc : X.calm = true) (hK : kt X = K) (hg : Gl X "list") (hm : X.mg "list" = none) (hg2 : Gl X "zip") (hm2 : X.mg "zip" = none) (h : PE X e (tB K B f)) (h' : PE X e2 (tB K B g))
    (hs : starEach [e, e2] X.env = (false, eval e X.env) :: starEach [e2] X.env := by rfl) (hs2 : starEach [e2] X.env = (false, eval e2 X.env) :: starEach [] X.env := by rfl) (hpl : (backTo pos2 (starEach [e2] X.env)).any (·.1) = false := by rfl)
    (nb : starEach [Expr.Call (.Name "zip" p2) [e, e2] [] pos2] X.env = (false, eval (Expr.Call (.Name "zip" p2) [e, e2] [] pos2) X.env) :: starEach [] X.env := by rfl) :
    PE X (.Call (.Name "list" p) [.Call (.Name "zip" p2) [e, e2] [] pos2] [] pos) (tN K B (eListZi f g)) := by
  subst hK
  refine (pe_listZip hc hg hm hg2 hm2 (pa_cons h (pa_cons h' pa_nil (hs := hs2)) (hs := hs)) hs hpl nb).imp fun σ H Q ⟨F, ι, S, env, st, z0⟩ => ?_
  refine ⟨F, ι, S, env, st, Post.bind_imp z0 fun d S1 z1 v c1 s1 o1 r1 => ?_⟩
  refine ⟨c1.F, c1.ι, S1, env, st.step s1 o1, Post.bind_imp z1 fun d2 S2 z2 v2 c2 s2 o2 r2 => ?_⟩
  obtain ⟨ds, S', e, q⟩ := Post.nr z2 (by intro x0 S0 zz; first | (cases zz; done) | (split at zz <;> first | (cases zz; done) | (split at zz <;> first | (cases zz; done) | (split at zz <;> first | (cases zz; done) | (split at zz <;> cases zz))))); clear z0 z1 z2
  split at e
  · rename_i xs ys
    cases e
    obtain ⟨a, vs, ev, h1, hl, h2⟩ := (r1.step s2).lst o2
    obtain ⟨b, ws, ew, h1', hl', h2'⟩ := r2.lst o2
    refine ⟨a, b, vs, ws, by rw [ev, ew], h1, h1', ?_⟩
    have ee : zipD xs ys = (xs.zip ys).map fun e => D.tup [e.1, e.2] := by
      unfold zipD
      rw [List.zip, List.map_zipWith]
    rw [ee] at q
    refine new_pairs o2 (s1.trans s2) (by rw [List.length_zip]; exact Nat.le_trans (Nat.min_le_left _ _) hl) (by rw [List.length_zip, List.length_zip, h2.len, h2'.len]) (fun i p e g1 g2 => ?_) q
    rw [List.getElem?_zip_eq_some] at g1 g2
    obtain ⟨x, hx, rx⟩ := h2.get g2.1
    obtain ⟨y, hy, ry⟩ := h2'.get g2.2
    rw [hx] at g1
    rw [hy] at g1
    obtain ⟨k1, k2⟩ := g1
    cases k1
    cases k2
    exact ⟨rx, ry⟩
  · cases e
end
end DL

/-! E11: two clauses, min with default, isinstance, pop, module's constants. -/
namespace DL
open PySem PySem.Spec PyProof.Rows L2

/-! ### comprehensions of two clauses -/
def compGo2 (g : GE) (p : ET) (it1 : EL) (g1 : GE) (p1 : ET) (f : EE) (vs1 : List Nat) (env0 : Env) : List D → Sto → Res (List D)
  | [], S => .ok [] S
  | d :: ds, S => match g d env0 with
    | none => .stuck
    | some env => (p env S).noex.bind fun k S => if k = true then (it1 env S).noex.bind fun es S => (compGo g1 p1 f (wipeE env vs1) es S).bind fun ys S => (compGo2 g p it1 g1 p1 f vs1 env0 ds S).bind fun zs S => .ok (ys ++ zs) S
      else compGo2 g p it1 g1 p1 f vs1 env0 ds S
def eComp2 (it : EL) (g : GE) (p : ET) (it1 : EL) (g1 : GE) (p1 : ET) (f : EE) (vs vs1 : List Nat) : EL := fun env S => (it env S).bind fun ds S => (compGo2 g p it1 g1 p1 f vs1 (wipeE env vs) ds S).noex.bind fun ys S =>
  if ys.length ≤ 1000000 then .ok ys S else .stuck
theorem nonadr {K : PySem.W.Frag} {c c1 : Bas} {L : Addr} (s : Step c c1) (h : c1.H L = none) : c.H L = none := by
  cases q : c.H L with
  | none => rfl
  | some o => exact absurd h (s.dom L (by rw [q]; exact fun z => by cases z))
/-- a target stores data alone -/
def GOk (g : GE) (ts : List Nat) : Prop := ∀ d env env', g d env = some env' → ∀ (i : Nat) (ds : List D), env'[i]? = some (some (.own ds)) → i ∉ ts ∧ env[i]? = some (some (.own ds))
def GsOk (g : List D → Env → Option Env) (ts : List Nat) : Prop := ∀ d env env', g d env = some env' → ∀ (i : Nat) (ds : List D), env'[i]? = some (some (.own ds)) → i ∉ ts ∧ env[i]? = some (some (.own ds))
theorem go_n (i : Nat) : GOk (gN i) [i] := fun d env env' h j ds e => by
  cases h
  by_cases hj : i = j
  · subst hj
    have hl : i < env.length := by
      have := (List.getElem?_eq_some_iff.mp e).1
      rw [List.length_set] at this
      exact this
    rw [List.getElem?_set_self hl] at e
    cases e
  · rw [List.getElem?_set_ne hj] at e
    exact ⟨fun z => hj (List.mem_singleton.mp z).symm, e⟩
theorem gso_nil : GsOk gsNil [] := fun d env env' h j ds e => by
  cases d with
  | nil => cases h; exact ⟨fun z => (by cases z), e⟩
  | cons _ _ => cases h
theorem gso_cons {g : GE} {gs : List D → Env → Option Env} {ts us : List Nat} (h1 : GOk g ts) (h2 : GsOk gs us) : GsOk (gsCons g gs) (ts ++ us) := fun d env env' h j ds e => by
  cases d with
  | nil => cases h
  | cons d r =>
    obtain ⟨env1, e1, e2⟩ := Option.bind_eq_some_iff.mp (show (g d env).bind (gs r) = some env' from h)
    obtain ⟨n1, k1⟩ := h2 r env1 env' e2 j ds e
    obtain ⟨n2, k2⟩ := h1 d env env1 e1 j ds k1
    exact ⟨fun z => (List.mem_append.mp z).elim n2 n1, k2⟩
theorem go_t {n : Nat} {gs : List D → Env → Option Env} {ts : List Nat} (h : GsOk gs ts) : GOk (gTp n gs) ts := fun d env env' e => by
  cases d with
  | tup ds =>
    have e' : (if ds.length = n then gs ds env else none) = some env' := e
    split at e'
    · exact h ds env env' e'
    · cases e'
  | lst ds =>
    have e' : (if ds.length = n then gs ds env else none) = some env' := e
    split at e'
    · exact h ds env env' e'
    · cases e'
  | non => cases e
  | bl b => cases e
  | int b => cases e
  | str b => cases e
  | mu b => cases e
  | ty b => cases e
  | dct ks xs => cases e
  | exn c ns xs => cases e
  | obj c ns xs => cases e
theorem lc2_of {K : Kt} {B : Bg} {it it1 : EL} {g g1 : GE} {ts ts1 vs vs1 : List Nat} {p p1 : ET} {f : EE} (hts : ∀ t ∈ ts, t ∈ vs) (hts1 : ∀ t ∈ ts1, t ∈ vs1) (hgo : GOk g ts) {σ : St} {H : Hp} {Q : VK} (h : tN K B (eComp2 it g p it1 g1 p1 f vs vs1) σ H Q) :
    tLc2 (tI K B it) (tG K B g ts) (tT K B p) (tI K B it1) (tG K B g1 ts1) (tT K B p1) (tD K B f) vs vs1 σ H Q := by
  obtain ⟨F, ι, S, env, st, z0⟩ := h
  refine ⟨F, ι, S, env, st, Post.bind_imp z0 fun ds S1 z1 J c1 s1 o1 wk => fun L hL => ?_⟩
  obtain ⟨ys, S', e0, z2⟩ := Post.noex_bind z1
  have hbk : ys.length ≤ 1000000 ∧ ∀ v c', Step ⟨F, ι, H⟩ c' → Sok K c' S' → NewAt K ⟨F, ι, H⟩ c' ys v → Q v c'.H := by
    split at z2
    · rename_i hb
      exact ⟨hb, z2⟩
    · exact z2.elim
  clear z0 z1 z2
  obtain ⟨hbig, k⟩ := hbk
  · skip
    have nH : H L = none := nonadr (K := K) (c := ⟨F, ι, H⟩) s1 hL
    obtain ⟨sn, on, L', vs0, eL, _, hL2, _, _, hF0, hι0⟩ := new_lst (ds := []) (vs := []) o1 hL (Nat.zero_le _) rfl
    cases eL
    refine ⟨fun i m H2 => m = ds.length - i ∧ i ≤ ds.length ∧ ∃ F2 ι2 S2 acc av, Step c1 ⟨F2, ι2, H2⟩ ∧ Sok K ⟨F2, ι2, H2⟩ S2 ∧ LAt ⟨F2, ι2, H2⟩ L (.lst av) ∧ RpAll K F2 ι2 acc av ∧
      ∃ zs, compGo2 g p it1 g1 p1 f vs1 (wipeE env vs) (ds.drop i) S2 = .ok zs S' ∧ acc ++ zs = ys, ⟨ds.length, by omega, Nat.zero_le _, c1.F, c1.ι, S1, [], [], sn, on, ⟨upd_same, hF0, hι0⟩, rfl, ys, e0, rfl⟩, fun i m H2 w => ?_⟩
    obtain ⟨rfl, hi, F2, ι2, S2, acc, av, s2, o2, la, ra, zs, e2, e3⟩ := w
    by_cases hlt : i < ds.length
    · refine .inr ⟨wk.go i ⟨F2, ι2, H2⟩ S2 s2.adv o2 hlt, ?_⟩
      have hd : ds.drop i = ds[i] :: ds.drop (i + 1) := List.drop_eq_getElem_cons hlt
      rw [hd] at e2
      refine ⟨fun H' => i + 1 ≤ ds.length ∧ ∃ F2 ι2 S2 acc av, Step c1 ⟨F2, ι2, H'⟩ ∧ Sok K ⟨F2, ι2, H'⟩ S2 ∧ LAt ⟨F2, ι2, H'⟩ L (.lst av) ∧ RpAll K F2 ι2 acc av ∧
        ∃ zs, compGo2 g p it1 g1 p1 f vs1 (wipeE env vs) (ds.drop (i + 1)) S2 = .ok zs S' ∧ acc ++ zs = ys, fun H' n => ⟨ds.length - (i + 1), by omega, rfl, n⟩, fun x H' y => ?_⟩
      obtain ⟨d, F3, hd3, s3, o3, r3⟩ := wk.yld i ⟨F2, ι2, H2⟩ S2 x H' s2.adv o2 hlt y
      have hdi : ds[i] = d := by
        rw [List.getElem?_eq_getElem hlt] at hd3
        exact Option.some.inj hd3
      rw [hdi] at e2
      have e2' : (match g d (wipeE env vs) with
        | none => Res.stuck
        | some env => (p env S2).noex.bind fun k S => if k = true then (it1 env S).noex.bind fun es S => (compGo g1 p1 f (wipeE env vs1) es S).bind fun ys S => (compGo2 g p it1 g1 p1 f vs1 (wipeE _ vs) (ds.drop (i + 1)) S).bind fun zs S => .ok (ys ++ zs) S
          else compGo2 g p it1 g1 p1 f vs1 (wipeE _ vs) (ds.drop (i + 1)) S) = .ok zs S' := e2
      split at e2'
      · cases e2'
      · rename_i env3 hg3
        have st3 : Stt K B ⟨F3, ι2, H'⟩ S2 (wipe σ vs) (wipeE env vs) := ((st.step s1 o1).step (s2.trans s3) o3).wipe vs
        refine ⟨F3, ι2, S2, _, d, env3, st3, r3, hg3, fun σ4 st4 hl4 hf4 => ?_⟩
        have hw : wipe σ4 vs = wipe σ vs := by
          rw [← wipe_idem (σ := σ)]
          exact wipe_eq hl4 fun j hj => hf4 j fun z => hj (hts j z)
        refine ⟨hw, ?_⟩
        obtain ⟨k5, S5, e5, e6⟩ := Res.noex_bind_ok e2'
        refine ⟨F3, ι2, S2, env3, st4, Post.of_ok e5 fun c5 s5 o5 => ?_⟩
        have sc5 : Step c1 c5 := (s2.trans s3).trans s5
        have la5 : LAt c5 L (.lst av) := la.step (s3.trans s5)
        cases k5 with
        | true =>
          rw [if_pos rfl] at e6
          obtain ⟨es, S6, e7, e8⟩ := Res.noex_bind_ok e6
          refine iteT ⟨c5.F, c5.ι, S5, env3, st4.step s5 o5, Post.of_ok e7 fun J1 c6 s6 o6 wk1 => ?_⟩
          have la6 : LAt c6 L (.lst av) := la5.step s6
          have st6 := (st4.step s5 o5).step s6 o6
          have nL1 : c1.H L = none := hL
          refine ⟨fun j m1 H7 => m1 = es.length - j ∧ j ≤ es.length ∧ ∃ F7 ι7 S7 acc7 av7, Step c1 ⟨F7, ι7, H7⟩ ∧ Adv c6 ⟨F7, ι7, H7⟩ ∧ Sok K ⟨F7, ι7, H7⟩ S7 ∧ Stt K B ⟨F7, ι7, H7⟩ S7 σ4 env3 ∧ LAt ⟨F7, ι7, H7⟩ L (.lst av7) ∧ RpAll K F7 ι7 acc7 av7 ∧
            ∃ ys7 S8, compGo g1 p1 f (wipeE env3 vs1) (es.drop j) S7 = .ok ys7 S8 ∧ ∃ zs7, compGo2 g p it1 g1 p1 f vs1 (wipeE env vs) (ds.drop (i + 1)) S8 = .ok zs7 S' ∧ acc7 ++ (ys7 ++ zs7) = ys, ?_, fun j m1 H7 w7 => ?_⟩
          · obtain ⟨ys7, S8, e9, e10⟩ := Res.bind_ok e8
            obtain ⟨zs7, S9, e11, e12⟩ := Res.bind_ok e10
            cases e12
            exact ⟨es.length, rfl, Nat.zero_le _, c6.F, c6.ι, S6, acc, av, sc5.trans s6, Adv.refl _, o6, st6, la6, s6.rpAll (s5.rpAll (s3.rpAll ra)), ys7, S8, e9, zs7, e11, e3⟩
          · obtain ⟨rfl, hj, F7, ι7, S7, acc7, av7, s7, ad7, o7, st7, la7, ra7, ys7, S8, e9, zs7, e11, e12⟩ := w7
            by_cases hlj : j < es.length
            · refine .inr ⟨wk1.go j ⟨F7, ι7, H7⟩ S7 ad7 o7 hlj, ?_⟩
              have hd1 : es.drop j = es[j] :: es.drop (j + 1) := List.drop_eq_getElem_cons hlj
              rw [hd1] at e9
              refine ⟨fun H7 => j + 1 ≤ es.length ∧ ∃ F7 ι7 S7 acc7 av7, Step c1 ⟨F7, ι7, H7⟩ ∧ Adv c6 ⟨F7, ι7, H7⟩ ∧ Sok K ⟨F7, ι7, H7⟩ S7 ∧ Stt K B ⟨F7, ι7, H7⟩ S7 σ4 env3 ∧ LAt ⟨F7, ι7, H7⟩ L (.lst av7) ∧ RpAll K F7 ι7 acc7 av7 ∧
                ∃ ys7 S8, compGo g1 p1 f (wipeE env3 vs1) (es.drop (j + 1)) S7 = .ok ys7 S8 ∧ ∃ zs7, compGo2 g p it1 g1 p1 f vs1 (wipeE env vs) (ds.drop (i + 1)) S8 = .ok zs7 S' ∧ acc7 ++ (ys7 ++ zs7) = ys, fun H' n => ⟨es.length - (j + 1), by omega, rfl, n⟩, fun x H' y => ?_⟩
              obtain ⟨d8, F8, hd8, s8, o8, r8⟩ := wk1.yld j ⟨F7, ι7, H7⟩ S7 x H' ad7 o7 hlj y
              have hdj : es[j] = d8 := by
                rw [List.getElem?_eq_getElem hlj] at hd8
                exact Option.some.inj hd8
              rw [hdj] at e9
              have e9' : (match g1 d8 (wipeE env3 vs1) with
                | none => Res.stuck
                | some env => (p1 env S7).noex.bind fun k S => if k = true then (f env S).noex.bind fun y S => (compGo g1 p1 f (wipeE env3 vs1) (es.drop (j + 1)) S).bind fun ys S => .ok (y :: ys) S else compGo g1 p1 f (wipeE env3 vs1) (es.drop (j + 1)) S) = .ok ys7 S8 := e9
              split at e9'
              · cases e9'
              · rename_i env8 hg8
                have st8 : Stt K B ⟨F8, ι7, H'⟩ S7 (wipe σ4 vs1) (wipeE env3 vs1) := (st7.step s8 o8).wipe vs1
                refine ⟨F8, ι7, S7, _, d8, env8, st8, r8, hg8, fun σ9 st9 hl9 hf9 => ?_⟩
                have hw9 : wipe σ9 vs1 = wipe σ4 vs1 := by
                  rw [← wipe_idem (σ := σ4)]
                  exact wipe_eq hl9 fun j hj => hf9 j fun z => hj (hts1 j z)
                refine ⟨hw9, ?_⟩
                obtain ⟨k10, S10, e13, e14⟩ := Res.noex_bind_ok e9'
                refine ⟨F8, ι7, S7, env8, st9, Post.of_ok e13 fun c10 s10 o10 => ?_⟩
                have la10 : LAt c10 L (.lst av7) := la7.step (s8.trans s10)
                cases k10 with
                | true =>
                  rw [if_pos rfl] at e14
                  obtain ⟨y11, S11, e15, e16⟩ := Res.noex_bind_ok e14
                  obtain ⟨ys12, S12, e17, e18⟩ := Res.bind_ok e16
                  cases e18
                  refine iteT ⟨c10.F, c10.ι, S10, env8, st9.step s10 o10, Post.of_ok e15 fun v11 c11 s11 o11 r11 => ?_⟩
                  have la11 : LAt c11 L (.lst av7) := la10.step s11
                  have hlen : av7.length < sizeLine := by
                    have h1 : ys.length ≤ 1000000 := hbig
                    rw [← e12, List.length_append, List.length_append, List.length_cons] at h1
                    rw [ra7.len]
                    exact sizeM (by omega)
                  have sAll : Step c1 c11 := ((s7.trans s8).trans s10).trans s11
                  have stB : Stt K B c11 S11 σ4 env3 := ((st7.step s8 o8).step s10 o10).step s11 o11
                  refine ⟨av7, la11.1, hlen, hlj, c11.F, c11.ι, S11, acc7 ++ [y11], av7 ++ [v11], sAll.upd_new nL1 la11.1 pln_lst, ((ad7.trans s8.adv).trans s10.adv).trans ⟨s11.same, s11.pre⟩, o11.upd la11.2.1 la11.2.2, ?_, ⟨upd_same, la11.2⟩, (s11.rpAll (s10.rpAll (s8.rpAll ra7))).snoc r11, ys12, S8, e17, zs7, e11, by rw [← e12]; simp⟩
                  -- the names' own lists are elsewhere
                  refine ⟨o11.upd la11.2.1 la11.2.2, ⟨stB.env.len, fun q x ex => ?_, stB.env.inj⟩, ?_⟩
                  · obtain ⟨v, hv, hx⟩ := stB.env.at_ q x ex
                    refine ⟨v, hv, ?_⟩
                    cases x with
                    | sh dd => exact hx
                    | fn _ => exact hx
                    | own dd =>
                      obtain ⟨b, ws, q1, q2, q3, q4, q5, q6, q7⟩ := hx
                      -- the name had that list before L was laid
                      obtain ⟨nq, ex0⟩ := hgo d _ env3 hg3 q dd ex
                      obtain ⟨v0, hv0, b0, ws0, q10, q20, _⟩ := ((st.step s1 o1).wipe vs).env.at_ q _ ex0
                      rw [← hf4 q nq, hv] at hv0
                      cases hv0
                      rw [q1] at q10
                      cases q10
                      have hbL : b ≠ L := ne_of_none q20 nL1
                      refine ⟨b, ws, q1, ?_, q3, q4, q5, q6, q7⟩
                      show upd c11.H L _ b = some _
                      rw [upd_ne hbL]
                      exact q2
                  · exact stB.st.upd_new (nonadr (K := K) (st.st.trans s1) hL) la11.1 pln_lst
                | false =>
                  rw [if_neg Bool.false_ne_true] at e14
                  exact iteF ⟨hlj, c10.F, c10.ι, S10, acc7, av7, (s7.trans s8).trans s10, (ad7.trans s8.adv).trans s10.adv, o10, (st7.step s8 o8).step s10 o10, la10, s10.rpAll (s8.rpAll ra7), ys7, S8, e14, zs7, e11, e12⟩
            · have hj' : j = es.length := by omega
              subst hj'
              rw [List.drop_length] at e9
              cases e9
              exact .inl ⟨wk1.stop ⟨F7, ι7, H7⟩ _ ad7 o7, hlt, F7, ι7, S7, acc7, av7, s7, o7, la7, ra7, zs7, e11, e12⟩
        | false =>
          rw [if_neg Bool.false_ne_true] at e6
          exact iteF ⟨hlt, c5.F, c5.ι, S5, acc, av, sc5, o5, la5, s5.rpAll (s3.rpAll ra), zs, e6, e3⟩
    · have hi' : i = ds.length := by omega
      subst hi'
      rw [List.drop_length] at e2
      cases e2
      rw [List.append_nil] at e3
      subst e3
      exact .inl ⟨wk.stop ⟨F2, ι2, H2⟩ _ s2.adv o2, k _ ⟨F2, ι2, H2⟩ (s1.trans s2) o2 ⟨L, av, rfl, nH, la.1, by rw [ra.len]; exact sizeM' hbig, ra, la.2.1, la.2.2⟩⟩
section
variable {X : Cx} {K : Kt} {B : Bg}
variable {elt tg iter tg1 iter1 : Expr} {ifs ifs1 : List Expr} {scope : Scope} {own : List (Str × Nat)} {pos : Pos} {it it1 : EL} {g g1 : GE} {ts ts1 vs1 : List Nat} {p p1 : ET} {f : EE}
theorem n_lc2 (hc : X.calm = true) (hN : X.N.Nodup) (hi : PI X tg iter (tI K B it)) (ok : BlkOk X.N X.env.scope scope own)
    (hg : ∀ (s : Shared) (H : Hp) (C : Addr) (cl : List (Str × Addr)) (fp : List Addr), PG (X.blk s H scope (compEnvC scope cl C X.env) fp) tg (tG K B g ts)) (ht : ∀ (s : Shared) (H : Hp) (C : Addr) (cl : List (Str × Addr)) (fp : List Addr), PTs (X.blk s H scope (compEnvC scope cl C X.env) fp) ifs (tT K B p))
    (hi1 : ∀ (s : Shared) (H : Hp) (C : Addr) (cl : List (Str × Addr)) (fp : List Addr), PI (X.blk s H scope (compEnvC scope cl C X.env) fp) tg1 iter1 (tI K B it1))
    (hg1 : ∀ (s : Shared) (H : Hp) (C : Addr) (cl : List (Str × Addr)) (fp : List Addr), PG (X.blk s H scope (compEnvC scope cl C X.env) fp) tg1 (tG K B g1 ts1)) (ht1 : ∀ (s : Shared) (H : Hp) (C : Addr) (cl : List (Str × Addr)) (fp : List Addr), PTs (X.blk s H scope (compEnvC scope cl C X.env) fp) ifs1 (tT K B p1))
    (he : ∀ (s : Shared) (H : Hp) (C : Addr) (cl : List (Str × Addr)) (fp : List Addr), PE (X.blk s H scope (compEnvC scope cl C X.env) fp) elt (tD K B f)) (hts : ∀ t ∈ ts, t ∈ own.map (·.2)) (hts1 : ∀ t ∈ ts1, t ∈ ts1 ++ vs1) (hv1 : ∀ t ∈ ts1 ++ vs1, t ∈ own.map (·.2)) (hgo : GOk g ts)
    (hs : ∀ x, foldedSetIterable iter X.env x = pure x := by intro _; rfl) (hs1 : ∀ env x, foldedSetIterable iter1 env x = pure x := by intro _ _; rfl) :
    PE X (.ListComp elt [⟨tg, iter, ifs, 0⟩, ⟨tg1, iter1, ifs1, 0⟩] scope pos) (tN K B (eComp2 it g p it1 g1 p1 f (own.map (·.2)) (ts1 ++ vs1))) :=
  (pe_lc2 hc hN hi ok hv1 hg ht hi1 hg1 ht1 he hs hs1).imp fun σ H Q h => lc2_of hts hts1 hgo h
theorem s_newLc2 {i : Nat} {y : Str} {py : Pos} {spos : Pos} (hc : X.calm = true) (hN : X.N.Nodup) (hy : X.N[i]? = some y) (hyl : X.env.scope.names.lookup y = some .local)
    (hsw : swapsWith (.ListComp elt [⟨tg, iter, ifs, 0⟩, ⟨tg1, iter1, ifs1, 0⟩] scope pos) (some (.Name y py)) spos.line X.env = pure true) (hi : PI X tg iter (tI K B it)) (ok : BlkOk X.N X.env.scope scope own)
    (hg : ∀ (s : Shared) (H : Hp) (C : Addr) (cl : List (Str × Addr)) (fp : List Addr), PG (X.blk s H scope (compEnvC scope cl C X.env) fp) tg (tG K B g ts)) (ht : ∀ (s : Shared) (H : Hp) (C : Addr) (cl : List (Str × Addr)) (fp : List Addr), PTs (X.blk s H scope (compEnvC scope cl C X.env) fp) ifs (tT K B p))
    (hi1 : ∀ (s : Shared) (H : Hp) (C : Addr) (cl : List (Str × Addr)) (fp : List Addr), PI (X.blk s H scope (compEnvC scope cl C X.env) fp) tg1 iter1 (tI K B it1))
    (hg1 : ∀ (s : Shared) (H : Hp) (C : Addr) (cl : List (Str × Addr)) (fp : List Addr), PG (X.blk s H scope (compEnvC scope cl C X.env) fp) tg1 (tG K B g1 ts1)) (ht1 : ∀ (s : Shared) (H : Hp) (C : Addr) (cl : List (Str × Addr)) (fp : List Addr), PTs (X.blk s H scope (compEnvC scope cl C X.env) fp) ifs1 (tT K B p1))
    (he : ∀ (s : Shared) (H : Hp) (C : Addr) (cl : List (Str × Addr)) (fp : List Addr), PE (X.blk s H scope (compEnvC scope cl C X.env) fp) elt (tD K B f)) (hts : ∀ t ∈ ts, t ∈ own.map (·.2)) (hts1 : ∀ t ∈ ts1, t ∈ ts1 ++ vs1) (hv1 : ∀ t ∈ ts1 ++ vs1, t ∈ own.map (·.2)) (hgo : GOk g ts)
    (hs : ∀ x, foldedSetIterable iter X.env x = pure x := by intro _; rfl) (hs1 : ∀ env x, foldedSetIterable iter1 env x = pure x := by intro _ _; rfl) :
    PS X (.Assign [.Name y py] (.ListComp elt [⟨tg, iter, ifs, 0⟩, ⟨tg1, iter1, ifs1, 0⟩] scope pos) spos) (tAsg (tN K B (eComp2 it g p it1 g1 p1 f (own.map (·.2)) (ts1 ++ vs1))) (gName i)) :=
  (ps_setLc2 hc hN hy hyl hsw hi ok hv1 hg ht hi1 hg1 ht1 he hs hs1).imp fun E σ H h => lc2_of (Q := fun x H1 => gName i x σ H1 E.nx) hts hts1 hgo h
end

/-! ### own lists that change -/
theorem Stt.own_upd {K : Kt} {B : Bg} {c : Bas} {S : Sto} {σ : St} {env : Env} {i : Nat} {a : Addr} {ds ds' : List D} {vs vs' : List V} (st : Stt K B c S σ env) (hi : env[i]? = some (some (.own ds))) (hv : σ[i]? = some (some (.ref a)))
    (hl : vs'.length ≤ sizeLine) (r : RpAll K c.F c.ι ds' vs') : Stt K B ⟨c.F, c.ι, upd c.H a (.lst vs')⟩ S σ (env.set i (some (.own ds'))) := by
  obtain ⟨v, hv', a', vs, ev, h1, _, h2, h3, h4, h5⟩ := st.env.at_ i _ hi
  rw [hv] at hv'
  cases hv'
  cases ev
  refine ⟨st.ok.upd h3 h4, ⟨by rw [List.length_set]; exact st.env.len, fun j x ej => ?_, fun j j2 es fs e2 e3 hjk => ?_⟩, st.st.upd_new h5 h1 pln_lst⟩
  · by_cases hj : i = j
    · subst hj
      rw [List.getElem?_set_self ((List.getElem?_eq_some_iff.mp hi).1)] at ej
      cases ej
      exact ⟨.ref a, hv, a, vs', rfl, upd_same, hl, r, h3, h4, h5⟩
    · rw [List.getElem?_set_ne hj] at ej
      obtain ⟨u, g1, g2⟩ := st.env.at_ j x ej
      refine ⟨u, g1, ?_⟩
      cases x with
      | sh d => exact g2
      | fn _ => exact g2
      | own es =>
        obtain ⟨b, ws, e2, k1, k2, k3, k4, k5, k6⟩ := g2
        refine ⟨b, ws, e2, ?_, k2, k3, k4, k5, k6⟩
        have hba : b ≠ a := fun z => st.env.inj i j ds es hi ej hj (by rw [hv, g1, e2, z])
        show upd c.H a _ b = some _
        rw [upd_ne hba]
        exact k1
  · have own_of : ∀ (j : Nat) (es : List D), (env.set i (some (.own ds')))[j]? = some (some (.own es)) → ∃ es', env[j]? = some (some (.own es')) := fun j es ej => by
      by_cases hj : i = j
      · subst hj; exact ⟨ds, hi⟩
      · rw [List.getElem?_set_ne hj] at ej; exact ⟨es, ej⟩
    obtain ⟨es', g1⟩ := own_of j es e2
    obtain ⟨fs', g2⟩ := own_of j2 fs e3
    exact st.env.inj j j2 es' fs' g1 g2 hjk
/-- xs.pop(), xs a list of the name's own, the item dropped -/
def sPop (i : Nat) : SS := fun env S => match env[i]? with
  | some (some (.own ds)) => if ds = [] then .stuck else .ok (.nx (env.set i (some (.own ds.dropLast)))) S
  | _ => .stuck
theorem RpAll.dropLast {K : Kt} {F : Hp} {ι : List Addr} {ds : List D} {vs : List V} (h : RpAll K F ι ds vs) : RpAll K F ι ds.dropLast vs.dropLast := by
  rw [List.dropLast_eq_take, List.dropLast_eq_take, h.len]
  exact h.take _
/-- what can't be -/
def sStuck : SS := fun _ _ => .stuck
section
variable {X : Cx} {K : Kt} {B : Bg} {pos : Pos} {e : Expr} {es : List Expr} {f : EE} {st : Stmt} {sts : List Stmt}
theorem s_pop {i : Nat} (hK : kt X = K) (hp : PS X st (tDrop (tBM0 X.K "list" rPop (tVar i)))) : PS X st (tK K B (sPop i)) := hp.imp fun E σ H ⟨F, ι, S, env, st, o, S', e, q⟩ => by
  subst hK
  unfold sPop at e
  split at e
  · rename_i ds hi
    split at e
    · cases e
    · rename_i hz
      cases e
      obtain ⟨v, hv, a, vs, ev, h1, hl, h2, h3, h4, h5⟩ := st.env.at_ i _ hi
      subst ev
      have hne : 0 < vs.length := by
        rw [h2.len]
        exact List.length_pos_iff.mpr hz
      refine ⟨.ref a, hv, .inl ⟨rfl, _, SqL.of h1⟩, a, vs, vs[vs.length - 1], rfl, rfl, h1, List.getElem?_eq_getElem (by omega), ?_⟩
      exact q σ ⟨F, ι, upd H a (.lst vs.dropLast)⟩ (Stt.own_upd (vs := vs) st hi hv (by rw [List.length_dropLast]; omega) h2.dropLast) ⟨Same.refl _, List.prefix_rfl⟩
  · cases e
theorem s_stuck : PS X st (tK K B sStuck) := ps_never.imp fun E σ H ⟨F, ι, S, env, st, o, S', e, q⟩ => by cases e
theorem ss_stuck : PSs X sts (tK K B sStuck) := pss_never.imp fun E σ H ⟨F, ι, S, env, st, o, S', e, q⟩ => by cases e
/-! a module's constant -/
theorem d_glob {x : Str} {d : D} {v : V} {u : Value} (hg : Gl X x) (hm : X.mg x = some u) (r : RelV v u) (rd : ∀ F ι, Rp K F ι d v) (hd : (x == ("__debug__" : Str)) = false := by decide) : PE X (.Name x pos) (tD K B (eC d)) := PE.const (pe_glob hg hm r hd) rd
end

/-! ### isinstance -/
def tyN : D → Option String
  | .non => some "NoneType"
  | .bl _ => some "bool"
  | .int _ => some "int"
  | .str _ => some "str"
  | .lst _ => some "list"
  | .tup _ => some "tuple"
  | .mu _ => some "list"
  | .dct _ _ => some "dict"
  | .ty _ => none
  | .exn _ _ _ => none
  | .obj _ _ _ => none
/-- is a thing of type a one of b (the few that are asked) -/
def isTy (b : String) : D → Option Bool
  | .non => some (b == "NoneType")
  | .bl _ => some (b == "bool" || b == "int")
  | .int _ => some (b == "int")
  | .str _ => some (b == "str")
  | .lst _ => some (b == "list")
  | .tup _ => some (b == "tuple")
  | .mu _ => some (b == "list")
  | .dct _ _ => some (b == "dict")
  | .ty _ => none
  | .exn _ _ _ => none
  | .obj _ _ _ => none
def knownTy : List String := ["int", "bool", "str", "list", "tuple"]
theorem isTy_kit {b t : String} {d : D} {r : Bool} (hb : b ∈ knownTy) (ht : tyN d = some t) (h : isTy b d = some r) : kitB t b = some r := by
  have hb' : b = "int" ∨ b = "bool" ∨ b = "str" ∨ b = "list" ∨ b = "tuple" := by simpa [knownTy] using hb
  cases d <;> first
    | (cases ht; done)
    | (cases ht; cases h; rcases hb' with rfl | rfl | rfl | rfl | rfl <;> decide +kernel)
theorem tyx_of {K : Kt} {B : Hp} {c : Bas} {S : Sto} {d : D} {v : V} {t : String} (ok : Sok K c S) (r : Rb K B c d v) (ht : tyN d = some t) : (∃ n, d = .mu n ∧ S[n]? = none) ∨ TyX K c.H v (.type t) := by
  have lstT : ∀ {a : Addr} {vs : List V}, SqL K c.H a vs → TyX K c.H (.ref a) (.type "list") := fun {a vs} h => by
    rcases h with (h | ⟨o, h⟩) | ⟨o, its, n, h1, h2, _⟩
    · exact .base (.lst h)
    · exact .base (.frz h)
    · exact .kList h1 h2
  cases d with
  | non => cases ht; cases r.non; exact .inr (.base .non)
  | bl b => cases ht; cases r.bl; exact .inr (.base (.bl b))
  | int b => cases ht; cases r.int; exact .inr (.base (.int b))
  | str b => cases ht; cases r.str; exact .inr (.base (.str b))
  | lst xs =>
    cases ht
    obtain ⟨a, vs, rfl, h1, _⟩ := r.lst ok
    exact .inr (lstT h1)
  | tup xs =>
    cases ht
    obtain ⟨a, vs, rfl, h1, _⟩ := r.tup ok
    rcases h1 with (h | ⟨o, h⟩) | ⟨o, its, n, h1, h2, _⟩
    · exact .inr (.base (.tup h))
    · exact .inr (.fTuple h)
    · exact .inr (.kTuple h1 h2)
  | mu n =>
    cases ht
    cases hs : S[n]? with
    | none => exact .inl ⟨n, rfl, hs⟩
    | some ds =>
      obtain ⟨a, vs, rfl, _, h1, _⟩ := r.mu ok hs
      exact .inr (.base (.lst h1))
  | ty n => cases ht
  | exn c ns xs => cases ht
  | obj c ns xs => cases ht
  | dct ks xs =>
    cases ht
    rcases r with ⟨a, vs, e, h, _⟩ | ⟨ds, e, _⟩
    · subst e
      rcases h with ⟨kvs, h, _⟩ | ⟨kvs, h, _⟩
      · exact .inr (.base (.dK (ok.f _ _ h)))
      · exact .inr (.base (.dT (ok.f _ _ h)))
    · cases e
theorem Rb.muS {K : Kt} {B : Hp} {c : Bas} {S : Sto} {n : Nat} {v : V} (ok : Sok K c S) (r : Rb K B c (.mu n) v) : S[n]? ≠ none := by
  rcases r with ⟨a, h1, h2⟩ | ⟨es, e, _⟩
  · have := (List.getElem?_eq_some_iff.mp h2).1
    rw [ok.len] at this
    rw [List.getElem?_eq_getElem this]
    exact fun z => by cases z
  · cases e
def eIsi (b : String) (f : EE) : EE := fun env S => (f env S).bind fun d S => match isTy b d with
  | some r => .ok (.bl r) S
  | none => .stuck
def eIsi2 (b b2 : String) (f : EE) : EE := fun env S => (f env S).bind fun d S => match isTy b d, isTy b2 d with
  | some r, some r2 => .ok (.bl (r || r2)) S
  | _, _ => .stuck
theorem isTy_tyN {b : String} {d : D} {r : Bool} (h : isTy b d = some r) : ∃ t, tyN d = some t := by
  cases d with
  | exn c ns xs => cases h
  | obj c ns xs => cases h
  | ty n => cases h
  | non => exact ⟨_, rfl⟩
  | bl b => exact ⟨_, rfl⟩
  | int b => exact ⟨_, rfl⟩
  | str b => exact ⟨_, rfl⟩
  | lst b => exact ⟨_, rfl⟩
  | tup b => exact ⟨_, rfl⟩
  | mu b => exact ⟨_, rfl⟩
  | dct b c => exact ⟨_, rfl⟩
section
variable {X : Cx} {K : Kt} {B : Bg} {pos p p2 p3 p4 : Pos} {e : Expr} {f : EE} {b b2 : String} {x y z : Str} {kk : Nat}
theorem tyx_of' {K : Kt} {B : Hp} {c : Bas} {S : Sto} {d : D} {v : V} {t : String} (ok : Sok K c S) (r : Rb K B c d v) (ht : tyN d = some t) : TyX K c.H v (.type t) := by
  rcases tyx_of ok r ht with ⟨n, rfl, h⟩ | h
  · exact absurd h (Rb.muS ok r)
  · exact h
theorem d_isi (hK : kt X = K) (hg : Gl X x) (hm : X.mg x = none) (hv : bootBuiltins x = some (.builtin "isinstance")) (hg2 : Gl X y) (hm2 : X.mg y = none) (hv2 : bootBuiltins y = some (.type b)) (hb : b ∈ knownTy) (he : PE X e (tB K B f))
    (hn : x ≠ "__name__" := by decide) (hdb : (x == ("__debug__" : Str)) = false := by decide) (hn2 : y ≠ "__name__" := by decide) (hdb2 : (y == ("__debug__" : Str)) = false := by decide)
    (hs : starEach [e, .Name y p2] X.env = (false, eval e X.env) :: starEach [.Name y p2] X.env := by rfl) (hs2 : starEach [.Name y p2] X.env = (false, eval (.Name y p2) X.env) :: starEach [] X.env := by rfl) (hpl : (backTo pos (starEach [.Name y p2] X.env)).any (·.1) = false := by rfl) :
    PE X (.Call (.Name x p) [e, .Name y p2] [] pos) (tD K B (eIsi b f)) := by
  subst hK
  refine (pe_callB call_isi hg hm hv (pa_cons he (pa_cons (pe_bltn hg2 hm2 hv2 (v := .ty b) rfl hn2 hdb2) pa_nil (hs := hs2)) (hs := hs)) hn hdb hs hpl).imp fun σ H Q ⟨F, ι, S, env, st, z0⟩ => ?_
  refine ⟨F, ι, S, env, st, Post.bind_imp z0 fun d S1 z1 v c1 s1 o1 r1 => ?_⟩
  obtain ⟨o, S', e, q⟩ := Post.nr z1 (by intro x0 S0 zz; first | (cases zz; done) | (split at zz <;> first | (cases zz; done) | (split at zz <;> first | (cases zz; done) | (split at zz <;> first | (cases zz; done) | (split at zz <;> cases zz))))); clear z0 z1
  split at e
  · rename_i r hr
    cases e
    obtain ⟨t, ht⟩ := isTy_tyN hr
    exact ⟨v, .ty b, .type t, .type b, r, rfl, .ty b, tyx_of' o1 r1 ht, kit_ty (isTy_kit hb ht hr), q _ c1 s1 o1 rfl⟩
  · cases e
theorem d_isi2 (hK : kt X = K) (hg : Gl X x) (hm : X.mg x = none) (hv : bootBuiltins x = some (.builtin "isinstance")) (hg2 : Gl X y) (hm2 : X.mg y = none) (hv2 : bootBuiltins y = some (.type b)) (hg3 : Gl X z) (hm3 : X.mg z = none) (hv3 : bootBuiltins z = some (.type b2)) (hb : b ∈ knownTy) (hb2 : b2 ∈ knownTy) (he : PE X e (tB K B f))
    (hn : x ≠ "__name__" := by decide) (hdb : (x == ("__debug__" : Str)) = false := by decide) (hn2 : y ≠ "__name__" := by decide) (hdb2 : (y == ("__debug__" : Str)) = false := by decide) (hn3 : z ≠ "__name__" := by decide) (hdb3 : (z == ("__debug__" : Str)) = false := by decide)
    (hs : starEach [e, .Tuple [.Name y p2, .Name z p3] kk p4] X.env = (false, eval e X.env) :: starEach [.Tuple [.Name y p2, .Name z p3] kk p4] X.env := by rfl) (hs2 : starEach [Expr.Tuple [.Name y p2, .Name z p3] kk p4] X.env = (false, eval (.Tuple [.Name y p2, .Name z p3] kk p4) X.env) :: starEach [] X.env := by rfl)
    (hs3 : starEach [Expr.Name y p2, .Name z p3] X.env = (false, eval (.Name y p2) X.env) :: starEach [.Name z p3] X.env := by rfl) (hs4 : starEach [Expr.Name z p3] X.env = (false, eval (.Name z p3) X.env) :: starEach [] X.env := by rfl) (hpl : (backTo pos (starEach [Expr.Tuple [.Name y p2, .Name z p3] kk p4] X.env)).any (·.1) = false := by rfl) :
    PE X (.Call (.Name x p) [e, .Tuple [.Name y p2, .Name z p3] kk p4] [] pos) (tD K B (eIsi2 b b2 f)) := by
  subst hK
  refine (pe_callB call_isiT hg hm hv (pa_cons he (pa_cons (pe_tup (pa_cons (pe_bltn hg2 hm2 hv2 (v := .ty b) rfl hn2 hdb2) (pa_cons (pe_bltn hg3 hm3 hv3 (v := .ty b2) rfl hn3 hdb3) pa_nil (hs := hs4)) (hs := hs3))) pa_nil (hs := hs2)) (hs := hs)) hn hdb hs hpl).imp fun σ H Q ⟨F, ι, S, env, st, z0⟩ => ?_
  refine ⟨F, ι, S, env, st, Post.bind_imp z0 fun d S1 z1 v c1 s1 o1 r1 => ?_⟩
  obtain ⟨o, S', e, q⟩ := Post.nr z1 (by intro x0 S0 zz; first | (cases zz; done) | (split at zz <;> first | (cases zz; done) | (split at zz <;> first | (cases zz; done) | (split at zz <;> first | (cases zz; done) | (split at zz <;> cases zz))))); clear z0 z1
  split at e
  · rename_i r r2 hr hr2
    cases e
    obtain ⟨t, ht⟩ := isTy_tyN hr
    refine ⟨by show 2 ≤ sizeLine; decide, fun tp hp => ?_⟩
    obtain ⟨s2, o2, _⟩ := new_tup (ds := [.ty b, .ty b2]) (vs := [.ty b, .ty b2]) o1 hp (by show 2 ≤ sizeLine; decide) ⟨_, _, rfl, rfl, _, _, rfl, rfl, rfl⟩
    have r1' := r1.step s2
    refine ⟨v, tp, [.ty b, .ty b2], .type t, [.type b, .type b2], r || r2, rfl, upd_same, .cons (.ty b) (.cons (.ty b2) .nil), tyx_of' o2 r1' ht, ?_, q _ ⟨_, _, _⟩ (s1.trans s2) o2 rfl⟩
    refine kitAny_cons (kit_ty (isTy_kit hb ht hr)) (fun hf => ?_) (fun hf => by rw [hf]; rfl)
    refine kitAny_cons (kit_ty (isTy_kit hb2 ht hr2)) (fun hf2 => ?_) (fun hf2 => by rw [hf2, Bool.or_true])
    rw [hf, hf2]
    exact kitAny_nil
  · cases e
end

/-! ### min(xs, default=d), max(xs, default=d), xs a list of ints -/
def rMinDef (K : PySem.W.Frag) (g : Int → List Int → Int) : List V → List V → Hp → VK → Prop := fun xs zs H Q => ∃ (a : Addr) (ns : List Int) (z : V), xs = [V.ref a] ∧ zs = [z] ∧ SqL K H a (ns.map V.int) ∧
  Q (match ns with | [] => z | n :: ns => .int (g n ns)) H
theorem alike_ints0 (ns : List Int) : PySem.W.AlikeAll (ns.map PyData.int) := by
  cases ns with
  | nil => exact ⟨fun x hx => absurd hx (by simp), fun x hx => absurd hx (by simp)⟩
  | cons n ns => exact alike_ints n ns
theorem ints_cons {ns : List Int} {y : PyData} {ys : List PyData} (h : ns.map PyData.int = y :: ys) : ∃ n ms, ns = n :: ms ∧ y = .int n ∧ ys = ms.map .int := by
  cases ns with
  | nil => cases h
  | cons n ms => cases h; exact ⟨n, ms, rfl, rfl, rfl⟩
section
variable {X : Cx}
theorem crk_min (hc : X.calm = true) (hu : X.A.units + 64 < cLine) : CallRK X (.builtin "min") ["default"] (rMinDef X.K fun n ns => ns.foldl min n) := by
  intro pins s σ H xs zs us ws Q I r r2 h
  obtain ⟨a, ns, z, rfl, rfl, hs, q⟩ := h
  rw [Vals.ref1 r]
  obtain ⟨u, rfl, ru⟩ := r2.one
  obtain ⟨its, rv, hl, _⟩ := I.list hs
  refine PySem.W.min_list_default (I.ok.hd hc) hl.isList (xs := ns.map .int) (as := []) (readsAll_ints rv) (alike_ints0 ns) (by rw [depth_ints]; omega) (fun e h' tk hk => ?_) fun y ys i v h' tk bs e hv hr hk => ?_
  · have e' : ns = [] := List.map_eq_nil_iff.mp e
    subst e'
    exact ⟨z, H, I.kept hk, ru, q⟩
  · obtain ⟨n, ms, rfl, rfl, rfl⟩ := ints_cons e
    rw [PySem.W.minD_ints] at hr
    obtain ⟨t, rfl⟩ := of_reads_int hr
    exact ⟨.int _, H, I.kept hk, ⟨t, rfl⟩, q⟩
theorem crk_max (hc : X.calm = true) (hu : X.A.units + 64 < cLine) : CallRK X (.builtin "max") ["default"] (rMinDef X.K fun n ns => ns.foldl max n) := by
  intro pins s σ H xs zs us ws Q I r r2 h
  obtain ⟨a, ns, z, rfl, rfl, hs, q⟩ := h
  rw [Vals.ref1 r]
  obtain ⟨u, rfl, ru⟩ := r2.one
  obtain ⟨its, rv, hl, _⟩ := I.list hs
  refine PySem.W.max_list_default (I.ok.hd hc) hl.isList (xs := ns.map .int) (as := []) (readsAll_ints rv) (alike_ints0 ns) (by rw [depth_ints]; omega) (fun e h' tk hk => ?_) fun y ys i v h' tk bs e hv hr hk => ?_
  · have e' : ns = [] := List.map_eq_nil_iff.mp e
    subst e'
    exact ⟨z, H, I.kept hk, ru, q⟩
  · obtain ⟨n, ms, rfl, rfl, rfl⟩ := ints_cons e
    rw [PySem.W.maxD_ints] at hr
    obtain ⟨t, rfl⟩ := of_reads_int hr
    exact ⟨.int _, H, I.kept hk, ⟨t, rfl⟩, q⟩
variable {K : Kt} {B : Bg} {x : Str} {p pos kpos : Pos} {e e2 : Expr} {f f2 : EE} {id : String} {gg : Int → List Int → Int}
def eMinDef (gg : Int → List Int → Int) (f f2 : EE) : EE := fun env S => (f env S).bind fun d S => (f2 env S).bind fun z S => match d with
  | .lst xs => (match allInt xs with
    | some [] => .ok z S
    | some (n :: ns) => .ok (.int (gg n ns)) S
    | none => .stuck)
  | _ => .stuck
theorem d_minDef (hK : kt X = K) (hcr : CallRK X (.builtin id) ["default"] (rMinDef X.K gg)) (hg : Gl X x) (hm : X.mg x = none) (hv : bootBuiltins x = some (.builtin id)) (he : PE X e (tB K B f)) (he2 : PE X e2 (tD K B f2)) (hn : x ≠ "__name__" := by decide) (hdb : (x == ("__debug__" : Str)) = false := by decide)
    (hs : starEach [e] X.env = (false, eval e X.env) :: starEach [] X.env := by rfl)
    (hse : backTo pos (starEach [e] X.env) = (false, eval e X.env) :: backTo pos (starEach [] X.env) := by rfl) (hpl : (backTo pos (starEach [e] X.env)).any (·.1) = false := by rfl)
    (hall : (backToKw pos (keywordEach [⟨some "default", e2, kpos⟩] X.env)).all (·.1.isSome) = true := by rfl) (hnone : (backToKw pos (keywordEach [⟨some "default", e2, kpos⟩] X.env)).any (·.1.isNone) = false := by rfl) (hks : (backToKw pos (keywordEach [⟨some "default", e2, kpos⟩] X.env)).filterMap (·.1) = (["default"] : List Str) := by rfl) :
    PE X (.Call (.Name x p) [e] [⟨some "default", e2, kpos⟩] pos) (tD K B (eMinDef gg f f2)) := by
  subst hK
  refine (pe_callBK hcr hg hm hv (pa_cons he pa_nil (hs := hs)) (pk_cons he2 pk_nil) hn hdb hse hpl hall hnone hks).imp fun σ H Q ⟨F, ι, S, env, st, z0⟩ => ?_
  refine ⟨F, ι, S, env, st, Post.bind_imp z0 fun d S1 z1 v c1 s1 o1 r1 => ?_⟩
  refine ⟨c1.F, c1.ι, S1, env, st.step s1 o1, Post.bind_imp z1 fun z S2 z2 v2 c2 s2 o2 r2 => ?_⟩
  obtain ⟨o, S', e, q⟩ := Post.nr z2 (by intro x0 S0 zz; first | (cases zz; done) | (split at zz <;> first | (cases zz; done) | (split at zz <;> first | (cases zz; done) | (split at zz <;> first | (cases zz; done) | (split at zz <;> cases zz))))); clear z0 z1 z2
  split at e
  · rename_i xs
    obtain ⟨a, vs, ev, h1, hl, h2⟩ := (r1.step s2).lst o2
    split at e
    · rename_i hx
      cases e
      have hx' := allInt_map hx
      subst hx'
      have h2' := h2.ints
      subst h2'
      exact ⟨a, [], v2, by rw [ev], rfl, h1, q _ c2 (s1.trans s2) o2 r2⟩
    · rename_i n ns hx
      cases e
      have hx' := allInt_map hx
      subst hx'
      have h2' := h2.ints
      subst h2'
      exact ⟨a, n :: ns, v2, by rw [ev], rfl, h1, q _ c2 (s1.trans s2) o2 rfl⟩
    · cases e
  · cases e
end
end DL

/-! E12: the rules, in the form in which they are printed. -/
namespace DL
open PySem PySem.Spec PyProof.Rows L2

/-! ### a new thing that changes -/
theorem new_mu {K : Kt} {c c' : Bas} {S : Sto} {ds : List D} {v : V} (s : Step c c') (ok : Sok K c' S) (n : NewAt K c c' ds v) :
    ∃ ι', Step c ⟨c'.F, ι', c'.H⟩ ∧ Sok K ⟨c'.F, ι', c'.H⟩ (S ++ [ds]) ∧ Rp K c'.F ι' (.mu S.length) v := by
  obtain ⟨a, vs, e, h1, h2, hl, h3, h4, h5⟩ := n
  have pre : c'.ι <+: c'.ι ++ [a] := List.prefix_append _ _
  have mem : ∀ b, b ∈ c'.ι ++ [a] → b ∈ c'.ι ∨ b = a := fun b hb => by simpa using hb
  refine ⟨c'.ι ++ [a], ⟨s.same, s.grow, s.fr, s.dom, s.pre.trans pre, fun b hb => ?_, s.tab⟩, ⟨ok.f, ?_, by rw [List.length_append, List.length_append, ok.len]; rfl, fun b hb => ?_, fun i b es g1 g2 => ?_, ok.nt⟩, a, e, ?_⟩
  · rcases mem b hb with r | r
    · exact s.new b r
    · rw [r]; exact .inr h1
  · show (c'.ι ++ [a]).Nodup
    rw [List.nodup_append]
    exact ⟨ok.nd, by simp, fun x hx y hy e => h5 (by rw [List.mem_singleton.mp hy] at e; rw [← e]; exact hx)⟩
  · rcases mem b hb with r | r
    · exact ok.fi b r
    · rw [r]; exact h4
  · have g1' : (c'.ι ++ [a])[i]? = some b := g1
    by_cases hi : i < S.length
    · rw [List.getElem?_append_left (by rw [ok.len]; exact hi)] at g1'
      rw [List.getElem?_append_left hi] at g2
      obtain ⟨ws, k1, k2, k3⟩ := ok.s i b es g1' g2
      exact ⟨ws, k1, k2, RpAll.mono (Same.refl _) pre _ _ k3⟩
    · rw [List.getElem?_append_right (by rw [ok.len]; omega), ok.len] at g1'
      rw [List.getElem?_append_right (by omega)] at g2
      have hz : i - S.length = 0 := by
        have := (List.getElem?_eq_some_iff.mp g2).1
        simpa using this
      rw [hz] at g1' g2
      cases g1'
      cases g2
      exact ⟨vs, h2, hl, RpAll.mono (Same.refl _) pre _ _ h3⟩
  · show (c'.ι ++ [a])[S.length]? = some a
    rw [← ok.len, List.getElem?_append_right (Nat.le_refl _), Nat.sub_self]
    rfl
def eMu (l : EL) : EE := fun env S => (l env S).bind fun ds S => .ok (.mu S.length) (S ++ [ds])
section
variable {X : Cx} {B : Bg} {e e2 a b : Expr} {es : List Expr} {f g : EE} {l : EL} {p pos pos2 py spos apos : Pos} {x y : Str} {st : Stmt} {op : Operator}
theorem d_mu {K : Kt} (h : PE X e (tN K B l)) : PE X e (tD K B (eMu l)) := h.imp fun σ H Q ⟨F, ι, S, env, st, z0⟩ => by
  refine ⟨F, ι, S, env, st, Post.bind_imp z0 fun ds S1 z1 v c' s o n => ?_⟩
  obtain ⟨ι', s', o', r⟩ := new_mu s o n
  exact z1 v ⟨c'.F, ι', c'.H⟩ s' o' r
/-! names -/
theorem dv (i : Nat) (hN : X.N[i]? = some x := by rfl) (hv : Vis X.env.scope x := by first | exact Or.inl rfl | exact Or.inr (Or.inl rfl) | exact Or.inr (Or.inr rfl)) (hd : (x == ("__debug__" : Str)) = false := by decide)
    (hcd : (x == ("__classdict__" : Str)) = false := by decide) : PE X (.Name x pos) (tD (kt X) B (eV i)) := d_var (pv i hN hv hd hcd)
theorem bv (i : Nat) (hN : X.N[i]? = some x := by rfl) (hv : Vis X.env.scope x := by first | exact Or.inl rfl | exact Or.inr (Or.inl rfl) | exact Or.inr (Or.inr rfl)) (hd : (x == ("__debug__" : Str)) = false := by decide)
    (hcd : (x == ("__classdict__" : Str)) = false := by decide) : PE X (.Name x pos) (tB (kt X) B (eVb i)) := b_var (pv i hN hv hd hcd)
theorem gn (i : Nat) (hN : X.N.Nodup) (hi : X.N[i]? = some x := by rfl) (hx : Loc X.env.scope x := by first | exact Or.inl rfl | exact Or.inr rfl) (hf : X.fn x = true ∨ X.env.scope.names.lookup x = some .local := by first | exact .inl rfl | exact .inr rfl) :
    PG X (.Name x pos) (tG (kt X) B (gN i) [i]) := g_name (t := gName i) (pg_name hN hi hx hf)
/-! operators -/
theorem c_add (ha : PE X a (tB (kt X) B f)) (hb : PE X b (tB (kt X) B g)) : PE X (.BinOp a .Add b pos) (tD (kt X) B (eBin oAdd f g)) := d_bin op_add od_add ha hb
theorem c_sub (ha : PE X a (tB (kt X) B f)) (hb : PE X b (tB (kt X) B g)) : PE X (.BinOp a .Sub b pos) (tD (kt X) B (eBin oSub f g)) := d_bin op_sub od_sub ha hb
theorem c_mul (ha : PE X a (tB (kt X) B f)) (hb : PE X b (tB (kt X) B g)) : PE X (.BinOp a .Mult b pos) (tD (kt X) B (eBin oMul f g)) := d_bin op_mul od_mul ha hb
theorem c_mod (ha : PE X a (tB (kt X) B f)) (hb : PE X b (tB (kt X) B g)) : PE X (.BinOp a .Mod b pos) (tD (kt X) B (eBin oMod f g)) := d_bin op_mod od_mod ha hb
theorem c_fdiv (ha : PE X a (tB (kt X) B f)) (hb : PE X b (tB (kt X) B g)) : PE X (.BinOp a .FloorDiv b pos) (tD (kt X) B (eBin oFdiv f g)) := d_bin op_fdiv od_fdiv ha hb
theorem c_pow (ha : PE X a (tB (kt X) B f)) (hb : PE X b (tB (kt X) B g)) : PE X (.BinOp a .Pow b pos) (tD (kt X) B (eBin oPow f g)) := d_bin op_pow od_pow ha hb
/-- a comparison, as an operation: for values and tests alike -/
structure Cmp (X : Cx) (op : CmpOp) (o : Op2) : Prop where
  ex : ∃ r, OpR X (compareOp op) r ∧ OpD (kt X) r o
  ni : op ≠ .In
  nn : op ≠ .NotIn
theorem k_lt : Cmp X .Lt oLt := ⟨⟨_, op_lt, od_cmp⟩, by decide, by decide⟩
theorem k_le : Cmp X .LtE oLe := ⟨⟨_, op_le, od_cmp⟩, by decide, by decide⟩
theorem k_gt : Cmp X .Gt oGt := ⟨⟨_, op_gt, od_cmp⟩, by decide, by decide⟩
theorem k_ge : Cmp X .GtE oGe := ⟨⟨_, op_ge, od_cmp⟩, by decide, by decide⟩
theorem k_eq (hu : X.A.units + 64 < cLine) : Cmp X .Eq oEq := ⟨⟨_, op_eqP hu, od_eq⟩, by decide, by decide⟩
theorem k_ne (hu : X.A.units + 64 < cLine) : Cmp X .NotEq oNe := ⟨⟨_, op_neP hu, od_ne⟩, by decide, by decide⟩
theorem k_is : Cmp X .Is oIs := ⟨⟨_, op_isN, od_is⟩, by decide, by decide⟩
theorem k_isnot : Cmp X .IsNot oIsNot := ⟨⟨_, op_notN, od_isnot⟩, by decide, by decide⟩
theorem c_cmp {op : CmpOp} {o : Op2} (k : Cmp X op o) (ha : PE X a (tB (kt X) B f)) (hb : PE X b (tB (kt X) B g)) : PE X (.Compare a [op] [b] pos) (tD (kt X) B (eBin o f g)) := by
  obtain ⟨⟨r, h1, h2⟩, h3, h4⟩ := k
  exact d_cmp h1 h2 ha hb (nomark b h3 h4)
theorem q_cmp {op : CmpOp} {o : Op2} (k : Cmp X op o) (ha : PE X a (tB (kt X) B f)) (hb : PE X b (tB (kt X) B g)) : PT X (.Compare a [op] [b] pos) (tT (kt X) B (eTst (eBin o f g))) := by
  obtain ⟨⟨r, h1, h2⟩, h3, h4⟩ := k
  exact t_cmp h1 h2 ha hb (nomark b h3 h4)
theorem c_chain {op op' : CmpOp} {o o' : Op2} {c : Expr} {h : EE} (k : Cmp X op o) (k' : Cmp X op' o') (ha : PE X a (tB (kt X) B f)) (hb : PE X b (tB (kt X) B g)) (hc : PE X c (tB (kt X) B h)) (hm : lastMarks [op, op'] [b, c] = false := by with_unfolding_all rfl) :
    PE X (.Compare a [op, op'] [b, c] pos) (tD (kt X) B (eChain o o' f g h)) := by
  obtain ⟨⟨r, h1, h2⟩, _, _⟩ := k
  obtain ⟨⟨r', h1', h2'⟩, _, _⟩ := k'
  exact d_chain h1 h1' h2 h2' ha hb hc hm
theorem q_chain {op op' : CmpOp} {o o' : Op2} {c : Expr} {h : EE} (k : Cmp X op o) (k' : Cmp X op' o') (ha : PE X a (tB (kt X) B f)) (hb : PE X b (tB (kt X) B g)) (hc : PE X c (tB (kt X) B h)) (hm : lastMarks [op, op'] [b, c] = false := by with_unfolding_all rfl) :
    PT X (.Compare a [op, op'] [b, c] pos) (tT (kt X) B (eTst (eChain o o' f g h))) := by
  obtain ⟨⟨r, h1, h2⟩, _, _⟩ := k
  obtain ⟨⟨r', h1', h2'⟩, _, _⟩ := k'
  exact t_chain h1 h1' h2 h2' ha hb hc hm
theorem c_ix (ha : PE X a (tB (kt X) B f)) (hb : PE X b (tB (kt X) B g)) (hs : PlainIx b := by exact fun _ _ => rfl) : PE X (.Subscript a b pos) (tD (kt X) B (eBin oIx f g)) := d_ix ha hb hs rfl
theorem q_tru (h : PE X e (tB (kt X) B f)) (he : ∀ whole, isTrue e X.env whole = (do let v ← whole; standAt e.pos; holding [v] (truthy v)) := by intro _; rfl) : PT X e (tT (kt X) B (eTru f)) := t_tru h rfl he
/-! built-ins -/
theorem c_len (hm : X.mg "len" = none) (ha : PA X (e :: es) (tAB (kt X) B l)) (hg : Gl X "len" := by rfl) (he : starEach (e :: es) X.env = (false, eval e X.env) :: starEach es X.env := by rfl) (hpl : (backTo pos (starEach es X.env)).any (·.1) = false := by rfl) :
    PE X (.Call (.Name "len" p) (e :: es) [] pos) (tD (kt X) B (eBlt bLen l)) := d_callB call_len_seq cd_len hg hm PySem.boot_len ha (by decide) (by decide) he hpl
theorem c_int (hm : X.mg "int" = none) (ha : PA X (e :: es) (tAB (kt X) B l)) (hg : Gl X "int" := by rfl) (he : starEach (e :: es) X.env = (false, eval e X.env) :: starEach es X.env := by rfl) (hpl : (backTo pos (starEach es X.env)).any (·.1) = false := by rfl) :
    PE X (.Call (.Name "int" p) (e :: es) [] pos) (tD (kt X) B (eBlt bInt l)) := d_callTy call_int1 cd_int hg hm PyProof.Rows.boot_int ha (by decide) (by decide) he hpl
theorem c_abs (hm : X.mg "abs" = none) (ha : PA X (e :: es) (tAB (kt X) B l)) (hg : Gl X "abs" := by rfl) (he : starEach (e :: es) X.env = (false, eval e X.env) :: starEach es X.env := by rfl) (hpl : (backTo pos (starEach es X.env)).any (·.1) = false := by rfl) :
    PE X (.Call (.Name "abs" p) (e :: es) [] pos) (tD (kt X) B (eBlt bAbs l)) := d_callB call_abs cd_abs hg hm (by decide +kernel) ha (by decide) (by decide) he hpl
theorem c_max2 (hc : X.calm = true) (hm : X.mg "max" = none) (ha : PA X (e :: es) (tAB (kt X) B l)) (hg : Gl X "max" := by rfl) (he : starEach (e :: es) X.env = (false, eval e X.env) :: starEach es X.env := by rfl) (hpl : (backTo pos (starEach es X.env)).any (·.1) = false := by rfl) :
    PE X (.Call (.Name "max" p) (e :: es) [] pos) (tD (kt X) B (eBlt bMax2 l)) := d_callB (call_max2 hc) cd_max2 hg hm (by decide +kernel) ha (by decide) (by decide) he hpl
theorem c_min2 (hc : X.calm = true) (hm : X.mg "min" = none) (ha : PA X (e :: es) (tAB (kt X) B l)) (hg : Gl X "min" := by rfl) (he : starEach (e :: es) X.env = (false, eval e X.env) :: starEach es X.env := by rfl) (hpl : (backTo pos (starEach es X.env)).any (·.1) = false := by rfl) :
    PE X (.Call (.Name "min" p) (e :: es) [] pos) (tD (kt X) B (eBlt bMin2 l)) := d_callB (call_min2 hc) cd_min2 hg hm (by decide +kernel) ha (by decide) (by decide) he hpl
theorem c_max1 (hc : X.calm = true) (hu : X.A.units + 64 < cLine) (hm : X.mg "max" = none) (ha : PA X (e :: es) (tAB (kt X) B l)) (hg : Gl X "max" := by rfl) (he : starEach (e :: es) X.env = (false, eval e X.env) :: starEach es X.env := by rfl) (hpl : (backTo pos (starEach es X.env)).any (·.1) = false := by rfl) :
    PE X (.Call (.Name "max" p) (e :: es) [] pos) (tD (kt X) B (eBlt bMax l)) := d_callB (cr_maxI hc hu) cd_max hg hm (by decide +kernel) ha (by decide) (by decide) he hpl
theorem c_min1 (hc : X.calm = true) (hu : X.A.units + 64 < cLine) (hm : X.mg "min" = none) (ha : PA X (e :: es) (tAB (kt X) B l)) (hg : Gl X "min" := by rfl) (he : starEach (e :: es) X.env = (false, eval e X.env) :: starEach es X.env := by rfl) (hpl : (backTo pos (starEach es X.env)).any (·.1) = false := by rfl) :
    PE X (.Call (.Name "min" p) (e :: es) [] pos) (tD (kt X) B (eBlt bMin l)) := d_callB (cr_minI hc hu) cd_min hg hm (by decide +kernel) ha (by decide) (by decide) he hpl
theorem c_tuple (hm : X.mg "tuple" = none) (ha : PA X (e :: es) (tAB (kt X) B l)) (hg : Gl X "tuple" := by rfl) (he : starEach (e :: es) X.env = (false, eval e X.env) :: starEach es X.env := by rfl) (hpl : (backTo pos (starEach es X.env)).any (·.1) = false := by rfl) :
    PE X (.Call (.Name "tuple" p) (e :: es) [] pos) (tD (kt X) B (eBlt bTuple l)) := d_callTy call_tuple_of cd_tuple hg hm PyProof.Rows.boot_tuple ha (by decide) (by decide) he hpl
theorem c_any (hc : X.calm = true) (hm : X.mg "any" = none) (ha : PA X (e :: es) (tAB (kt X) B l)) (hg : Gl X "any" := by rfl) (he : starEach (e :: es) X.env = (false, eval e X.env) :: starEach es X.env := by rfl) (hpl : (backTo pos (starEach es X.env)).any (·.1) = false := by rfl) :
    PE X (.Call (.Name "any" p) (e :: es) [] pos) (tD (kt X) B (eBlt bAny l)) := d_callB (cr_any hc) cd_any hg hm PyProof.Rows.boot_any ha (by decide) (by decide) he hpl
theorem c_all (hc : X.calm = true) (hm : X.mg "all" = none) (ha : PA X (e :: es) (tAB (kt X) B l)) (hg : Gl X "all" := by rfl) (he : starEach (e :: es) X.env = (false, eval e X.env) :: starEach es X.env := by rfl) (hpl : (backTo pos (starEach es X.env)).any (·.1) = false := by rfl) :
    PE X (.Call (.Name "all" p) (e :: es) [] pos) (tD (kt X) B (eBlt bAll l)) := d_callB (cr_all hc) cd_all hg hm PyProof.Rows.boot_all ha (by decide) (by decide) he hpl
theorem c_list (hm : X.mg "list" = none) (ha : PA X (e :: es) (tAB (kt X) B l)) (hg : Gl X "list" := by rfl) (he : starEach (e :: es) X.env = (false, eval e X.env) :: starEach es X.env := by rfl) (hpl : (backTo pos (starEach es X.env)).any (·.1) = false := by rfl) :
    PE X (.Call (.Name "list" p) (e :: es) [] pos) (tN (kt X) B (eBltN bList l)) := n_callTy call_list_of cn_list hg hm PyProof.Rows.boot_list ha (by decide) (by decide) he hpl
theorem c_sorted (hu : X.A.units + 64 < cLine) (hm : X.mg "sorted" = none) (ha : PA X (e :: es) (tAB (kt X) B l)) (hg : Gl X "sorted" := by rfl) (he : starEach (e :: es) X.env = (false, eval e X.env) :: starEach es X.env := by rfl) (hpl : (backTo pos (starEach es X.env)).any (·.1) = false := by rfl) :
    PE X (.Call (.Name "sorted" p) (e :: es) [] pos) (tN (kt X) B (eBltN oSorted l)) := n_callB (cr_sortD hu) cn_sorted hg hm PyProof.Rows.boot_sorted ha (by decide) (by decide) he hpl
end
section
variable {X : Cx} {B : Bg} {e e2 a b : Expr} {es : List Expr} {f o k : EE} {l : EL} {p pos pos2 py spos apos : Pos} {x y : Str} {st : Stmt}
/-- a plain name, as what a method is asked of -/
theorem dvv (i : Nat) (hN : X.N[i]? = some x := by rfl) (hv : Vis X.env.scope x := by first | exact Or.inl rfl | exact Or.inr (Or.inl rfl) | exact Or.inr (Or.inr rfl)) (hd : (x == ("__debug__" : Str)) = false := by decide)
    (hcd : (x == ("__classdict__" : Str)) = false := by decide) : PE X (.Name x pos) (tVar i) := pv i hN hv hd hcd
theorem d_gint {i : Int} (h : ∃ t, X.mg x = some (.int i t)) (hg : Gl X x := by rfl) (hd : (x == ("__debug__" : Str)) = false := by decide) : PE X (.Name x pos) (tD (kt X) B (eC (.int i))) := by
  obtain ⟨t, h⟩ := h
  exact d_glob (v := .int i) hg h ⟨t, rfl⟩ (fun _ _ => rfl) hd
theorem s_setN {K : Kt} {i : Nat} (h : PS X st (tAsg (tN K B l) (gName i))) : PS X st (tK K B (sSet i (eLst l))) := h.imp fun E σ H ⟨F, ι, S, env, st, o, S', e, q⟩ => by
  refine ⟨F, ι, S, env, st, Post.bind_imp (f := fun ds S => .ok (D.lst ds) S) (bindS_post e q) fun ds S1 e v c1 s1 o1 n1 => ?_⟩
  replace e : Res.ok (Out.nx (env.set i (some (.sh (.lst ds))))) S1 = .ok o S' := e
  cases e
  obtain ⟨F', s2, o2, r2⟩ := frz_new s1 o1 n1
  have st1 := st.step s2 o2
  exact q _ ⟨F', c1.ι, c1.H⟩ ⟨st1.ok, st1.env.set_sh i r2, st1.st⟩ s2.adv
theorem s_appA {i : Nat} {opos cpos : Pos} (hx : PE X a (tVar i)) (h : PE X e (tD (kt X) B f)) (hs : starEach [e] X.env = (false, eval e X.env) :: starEach [] X.env := by rfl)
    (hbase : attributeBase a "append" X.env (eval a X.env) = eval a X.env := by rfl)
    (hfew : ((backTo cpos (starEach [e] X.env)).all (fun x => !x.1) && (backToKw cpos (keywordEach [] X.env)).all (fun x => x.1.isSome)
      && decide ([e].length + ([] : List Keyword).length + (if ([] : List Keyword).isEmpty then 0 else 1) < 30)) = true := by rfl)
    (hline : (opos.endLine == cpos.line) = true := by rfl) (hplain : (backTo cpos (starEach [] X.env)).any (·.1) = false := by rfl)
    (hsw : swapsWith (.Call (.Attribute a "append" opos) [e] [] cpos) none pos.line X.env = pure false := by rfl) :
    PS X (.Expr (.Call (.Attribute a "append" opos) [e] [] cpos) pos) (tK (kt X) B (sApp i f)) :=
  s_app (apos := pos) rfl hx h hs (ps_expr (pe_bm PySem.F.plainAttrs_list PySem.F.slot_list_append PySem.F.type_list_append mt_append hx (pa_cons h pa_nil (hs := hs)) hbase hfew hline hs hplain) hsw)
theorem s_popA {i : Nat} {opos cpos : Pos} (hx : PE X a (tVar i)) (hbase : attributeBase a "pop" X.env (eval a X.env) = eval a X.env := by rfl) (hline : (opos.endLine == cpos.line) = true := by rfl)
    (hsw : swapsWith (.Call (.Attribute a "pop" opos) [] [] cpos) none pos.line X.env = pure false := by rfl) :
    PS X (.Expr (.Call (.Attribute a "pop" opos) [] [] cpos) pos) (tK (kt X) B (sPop i)) :=
  s_pop rfl (ps_expr (pe_bm0 PySem.F.plainAttrs_list PySem.F.slot_list_pop PySem.F.type_list_pop mt_pop hx hbase hline) hsw)
theorem s_storeA {tpos : Pos} (hv : PE X e (tD (kt X) B f)) (ho : PE X a (tD (kt X) B o)) (hi : PE X b (tD (kt X) B k))
    (ha : ∀ v, assign (.Subscript a b tpos) X.env v = (do
      let ov ← holding [v] (eval a X.env)
      let iv ← holding [v, ov] (eval b X.env)
      standAt tpos
      holding [v, ov, iv] (setItem ov iv v)
      release [v, ov, iv] []) := by intro _; rfl)
    (hs : swapsWithSole [.Subscript a b tpos] e pos.line X.env = pure false := by rfl) (hw : swappedStores [.Subscript a b tpos] e X.env = pure none := by rfl)
    (h1 : (assignEach [.Subscript a b tpos] X.env).map (·.2) = [assign (.Subscript a b tpos) X.env] := by rfl) :
    PS X (.Assign [.Subscript a b tpos] e pos) (tK (kt X) B (sStore f o k)) := s_store (tpos := tpos) hv ho hi (ps_asg hv (pg_sub ho hi set_list ha) hs hw h1)
end
end DL

/-! DLE: a law's end. -/
namespace DL
open PySem PySem.Spec PyProof.Rows L2
theorem rp_ints {K : Kt} {F : Hp} {ι : List Addr} : ∀ ns : List Int, RpAll K F ι (ns.map D.int) (ns.map V.int)
  | [] => rfl
  | n :: r => ⟨.int n, r.map V.int, rfl, rfl, rp_ints r⟩
theorem end_sp {K : Kt} {φ : List D → Sto → Res D} (math : ∀ ns : List Int, ns.length ≤ 63 → ∃ S', φ [.lst (ns.map .int)] [] = .ok (.bl true) S') {H : Hp} {a : Addr} {ns : List Int} (hl : ns.length ≤ 63) (hS : SqL K H a (ns.map V.int)) {E : XK} :
    spD K 1 φ [.ref a] H (fun v _ => v = .bl true) E := by
  obtain ⟨S', e⟩ := math ns hl
  have hz : (ns.map V.int).length ≤ sizeLine := by
    rw [List.length_map]
    exact Nat.le_trans hl (by decide)
  have fin : ∀ F : Hp, Same F H → (∀ b ps, F b ≠ some (.tbl ps)) → SqL K F a (ns.map V.int) → spD K 1 φ [.ref a] H (fun v _ => v = .bl true) E := fun F hF hnt h =>
    ⟨rfl, F, [], [], [.lst (ns.map .int)], ⟨hF, List.nodup_nil, rfl, fun a ha => (by cases ha), fun n a ds h1 => (by simp at h1), hnt⟩, ⟨.ref a, [], rfl, ⟨a, ns.map V.int, rfl, h, hz, rp_ints ns⟩, rfl⟩, Post.of_ok e fun v c' _ _ r => r⟩
  rcases hS with h | h
  · refine fin (fun b => if b = a then H a else none) (fun b o q => ?_) (fun b ps q => ?_) (.inl ?_)
    · have q' : (if b = a then H a else none) = some o := q
      split at q'
      · rename_i hb
        rw [hb]
        exact q'
      · cases q'
    · have q' : (if b = a then H a else none) = some (.tbl ps) := q
      split at q'
      · rcases h with h | ⟨o, h⟩
        · rw [h] at q'; cases q'
        · rw [h] at q'; cases q'
      · cases q'
    · rcases h with h | ⟨o, h⟩
      · exact .inl (by show (if a = a then H a else none) = _; rw [if_pos rfl]; exact h)
      · exact .inr ⟨o, by show (if a = a then H a else none) = _; rw [if_pos rfl]; exact h⟩
  · exact fin (fun _ => none) (fun b o q => by cases q) (fun b ps q => by cases q) (.inr h)
end DL

/-! E16: is True, repr of a truth value, things that change: their slices, xs[::-1], xs + [..]. -/
namespace DL
open PySem PySem.Spec PyProof.Rows L2

def oIsB : Op2 := fun x y S => match x, y with
  | .bl a, .bl b => .ok (.bl (decide (a = b))) S
  | _, _ => .stuck
def oIsNotB : Op2 := fun x y S => match x, y with
  | .bl a, .bl b => .ok (.bl (!decide (a = b))) S
  | _, _ => .stuck
section
variable {K : Kt}
theorem od_isB : OpD K (fun x y H Q => ∃ a b, x = .bl a ∧ y = .bl b ∧ Q (.bl (decide (a = b))) H) oIsB := by
  intro B c S S' x y dx dy d ok hx hy e Q q
  unfold oIsB at e
  split at e
  · cases e
    exact ⟨_, _, hx.bl, hy.bl, q _ c (Step.refl c) ok rfl⟩
  · cases e
theorem od_isnotB : OpD K (fun x y H Q => ∃ a b, x = .bl a ∧ y = .bl b ∧ Q (.bl (!decide (a = b))) H) oIsNotB := by
  intro B c S S' x y dx dy d ok hx hy e Q q
  unfold oIsNotB at e
  split at e
  · cases e
    exact ⟨_, _, hx.bl, hy.bl, q _ c (Step.refl c) ok rfl⟩
  · cases e
end
theorem k_isB {X : Cx} : Cmp X .Is oIsB := ⟨⟨_, op_is_bl, od_isB⟩, by decide, by decide⟩
theorem k_isnotB {X : Cx} : Cmp X .IsNot oIsNotB := ⟨⟨_, op_isnot_bl, od_isnotB⟩, by decide, by decide⟩

/-! repr of a truth value -/
def bReprB : OpA := fun ds S => match ds with
  | [.bl b] => .ok (.str (if b then "True" else "False")) S
  | _ => .stuck
def rReprB : List V → Hp → VK → Prop := fun xs H Q => ∃ b, xs = [.bl b] ∧ Q (.str (if b then "True" else "False")) H
theorem cr_reprB {X : Cx} : CallR X (.builtin "repr") rReprB := by
  intro pins s σ H xs us Q I r h
  obtain ⟨b, rfl, q⟩ := h
  obtain ⟨u, rfl, r1⟩ := vals1 r
  cases (show u = Value.bool b from r1)
  exact PySem.P.repr_of_bool ⟨.str _, H, I.tok _, ⟨_, rfl⟩, q⟩
theorem cd_reprB {K : Kt} : CallD K rReprB bReprB := by
  intro B c S S' vs ds d ok h e Q q
  unfold bReprB at e
  split at e
  · cases e
    obtain ⟨v, rfl, r⟩ := h.one
    exact ⟨_, by rw [r.bl], q _ c (Step.refl c) ok rfl⟩
  · cases e

/-! ### lists that change, as operands -/
def seqL (S : Sto) : D → Option (List D)
  | .lst ds => some ds
  | .mu n => S[n]?
  | _ => none
theorem Rb.seqL {K : Kt} {B : Hp} {c : Bas} {S : Sto} {d : D} {ds : List D} {v : V} (ok : Sok K c S) (h : Rb K B c d v) (e : seqL S d = some ds) : ∃ a vs, v = .ref a ∧ SqL K c.H a vs ∧ vs.length ≤ sizeLine ∧ RpAll K c.F c.ι ds vs := by
  cases d with
  | lst xs => cases e; exact h.lst ok
  | mu n =>
    obtain ⟨a, vs, e1, _, h1, hl, h2⟩ := h.mu ok e
    exact ⟨a, vs, e1, SqL.of h1, hl, h2⟩
  | non => cases e
  | bl b => cases e
  | int b => cases e
  | str b => cases e
  | tup b => cases e
  | ty b => cases e
  | dct a b => cases e
  | exn a b c => cases e
  | obj a b c => cases e
theorem RpAll.reverse {K : Kt} {F : Hp} {ι : List Addr} : ∀ {ds : List D} {vs : List V}, RpAll K F ι ds vs → RpAll K F ι ds.reverse vs.reverse
  | [], _, h => by rw [show _ = [] from h]; exact rfl
  | d :: ds, _, ⟨v, r, h1, h2, h3⟩ => by
    subst h1
    rw [List.reverse_cons, List.reverse_cons]
    exact (RpAll.reverse h3).snoc h2
section
variable {X : Cx} {K : Kt} {B : Bg} {a b e : Expr} {f g : EE} {u v : EO} {l l' : EL} {pos p1 p2 p3 : Pos} {lo hi : Option Expr} {k : Nat}
def eRev (f : EE) : EL := fun env S => (f env S).bind fun x S => match seqL S x with
  | some ds => .ok ds.reverse S
  | none => .stuck
theorem n_rev (hK : kt X = K) (he : PE X e (tB K B f)) : PE X (.Subscript e (.Slice none none (some (.UnaryOp .USub (.Constant (.int 1) k p1) p2)) p3) pos) (tN K B (eRev f)) := by
  subst hK
  refine (pe_revL he).imp fun σ H Q ⟨F, ι, S, env, st, z0⟩ => ?_
  refine ⟨F, ι, S, env, st, Post.bind_imp z0 fun d S1 z1 v1 c1 s1 o1 r1 => ?_⟩
  obtain ⟨ys, S', e, q⟩ := Post.nr z1 (by intro x0 S0 zz; first | (cases zz; done) | (split at zz <;> first | (cases zz; done) | (split at zz <;> first | (cases zz; done) | (split at zz <;> first | (cases zz; done) | (split at zz <;> cases zz))))); clear z0 z1
  split at e
  · rename_i ds hd
    cases e
    obtain ⟨a, vs, rfl, h1, hz, h2⟩ := r1.seqL o1 hd
    refine ⟨a, vs, rfl, h1, fun p hp => ?_⟩
    obtain ⟨s4, o4, n4⟩ := new_lst o1 hp (by rw [List.length_reverse]; exact hz) h2.reverse
    exact q _ ⟨_, _, _⟩ (s1.trans s4) o4 (n4.from s1)
  · cases e
/-- a slice of a list, one that changes too -/
def eSlS (f : EE) (u v : EO) : EL := fun env S => (f env S).bind fun d S => (u env S).bind fun lo S => (v env S).bind fun hi S => match seqL S d with
  | some ds => .ok (cutD ds lo hi) S
  | none => .stuck
theorem n_sliceS (hK : kt X = K) (he : PE X e (tB K B f)) (hl : PO X lo (tOI K B u)) (hu : PO X hi (tOI K B v)) : PE X (.Subscript e (.Slice lo hi none p2) pos) (tN K B (eSlS f u v)) := by
  subst hK
  refine (pe_slice sl_list he hl hu).imp fun σ H Q ⟨F, ι, S, env, st, z0⟩ => ?_
  refine ⟨F, ι, S, env, st, Post.bind_imp z0 fun d S1 z1 v1 c1 s1 o1 r1 => ?_⟩
  refine ⟨c1.F, c1.ι, S1, env, st.step s1 o1, Post.bind_imp z1 fun l S2 z2 c2 s2 o2 => ?_⟩
  refine ⟨c2.F, c2.ι, S2, env, st.step (s1.trans s2) o2, Post.bind_imp z2 fun h S3 z3 c3 s3 o3 => ?_⟩
  obtain ⟨ys, S', e, q⟩ := Post.nr z3 (by intro x0 S0 zz; first | (cases zz; done) | (split at zz <;> first | (cases zz; done) | (split at zz <;> first | (cases zz; done) | (split at zz <;> first | (cases zz; done) | (split at zz <;> cases zz))))); clear z0 z1 z2 z3
  split at e
  · rename_i ds hd
    cases e
    obtain ⟨a, vs, rfl, h1, hz, h2⟩ := ((r1.step s2).step s3).seqL o3 hd
    refine ⟨a, vs, rfl, h1, fun p hp => ?_⟩
    obtain ⟨s4, o4, n4⟩ := new_lst o3 hp (Nat.le_trans (cutV_length _ _ _) hz) (h2.cut l h)
    exact q _ ⟨_, _, _⟩ (((s1.trans s2).trans s3).trans s4) o4 (n4.from ((s1.trans s2).trans s3))
  · cases e
/-- a thing that changes + a new list -/
def eCatM (f : EE) (l : EL) : EL := fun env S => (f env S).bind fun x S => (l env S).bind fun ys S => match x with
  | .mu n => (match S[n]? with
    | some xs => if xs.length + ys.length ≤ 1000000 then .ok (xs ++ ys) S else .stuck
    | none => .stuck)
  | _ => .stuck
theorem n_catM (ha : PE X a (tD K B f)) (hb : PE X b (tN K B l)) : PE X (.BinOp a .Add b pos) (tN K B (eCatM f l)) := (pe_op op_cat ha hb).imp fun σ H Q ⟨F, ι, S, env, st, z0⟩ => by
  refine ⟨F, ι, S, env, st, Post.bind_imp z0 fun x S1 z1 v1 c1 s1 o1 r1 => ?_⟩
  refine ⟨c1.F, c1.ι, S1, env, st.step s1 o1, Post.bind_imp z1 fun zs S2 z2 v2 c2 s2 o2 n2 => ?_⟩
  obtain ⟨ys, S', e, q⟩ := Post.nr z2 (by intro x0 S0 zz; first | (cases zz; done) | (split at zz <;> first | (cases zz; done) | (split at zz <;> first | (cases zz; done) | (split at zz <;> first | (cases zz; done) | (split at zz <;> cases zz))))); clear z0 z1 z2
  split at e
  · rename_i n
    split at e
    · rename_i xs hS
      split at e
      · rename_i hz
        cases e
        obtain ⟨p1, ev1, hp1⟩ := s2.rp r1
        obtain ⟨w1, b1, hl1, r1'⟩ := o2.s n p1 xs hp1 hS
        obtain ⟨p2, w2, ev2, a2, b2, d2, r2, f2, g2⟩ := n2
        have hl : w1.length + w2.length ≤ sizeLine := by rw [r1'.len, r2.len]; exact sizeM' hz
        refine ⟨p1, p2, w1, w2, ev1, ev2, b1, b2, hl, fun p hp => ?_⟩
        obtain ⟨s3, o3, n3⟩ := new_lst o2 hp (by rw [List.length_append]; exact hl) (r1'.append r2)
        exact q _ ⟨_, _, _⟩ ((s1.trans s2).trans s3) o3 (n3.from (s1.trans s2))
      · cases e
    · cases e
  · cases e
end
end DL

/-! E17: calls by names; a, b = x, y; insert; dicts that are written down. -/
namespace DL
open PySem PySem.Spec PyProof.Rows L2

/-! ### calls by names -/
/-- m values by position, n by names; π: where each parameter's value stands -/
def gK {α : Type} (m n : Nat) (π : List Nat) (us ws : List α) : List α := if us.length = m ∧ ws.length = n then π.filterMap (fun i => (us ++ ws)[i]?) else []
section
variable {K : Kt} {F : Hp} {ι : List Addr}
theorem RpAll.pick {ds : List D} {vs : List V} (h : RpAll K F ι ds vs) : ∀ π : List Nat, RpAll K F ι (π.filterMap (fun i => ds[i]?)) (π.filterMap (fun i => vs[i]?))
  | [] => rfl
  | i :: π => by
    have ih := RpAll.pick h π
    cases e : ds[i]? with
    | none =>
      have e2 : vs[i]? = none := by
        rw [List.getElem?_eq_none_iff] at e ⊢
        rw [h.len]
        exact e
      rw [List.filterMap_cons_none e, List.filterMap_cons_none e2]
      exact ih
    | some d =>
      obtain ⟨v, e2, r⟩ := h.get e
      rw [List.filterMap_cons_some e, List.filterMap_cons_some e2]
      exact ⟨v, _, rfl, r, ih⟩
theorem RpAll.gK {ds es : List D} {vs ws : List V} (h : RpAll K F ι ds vs) (h2 : RpAll K F ι es ws) {m n : Nat} {π : List Nat} : RpAll K F ι (gK m n π ds es) (gK m n π vs ws) := by
  unfold DL.gK
  rw [h.len, h2.len]
  split
  · exact (h.append h2).pick π
  · exact rfl
end
theorem Vals.pick {vs : List V} {us : List Value} (h : Vals vs us) : ∀ π : List Nat, Vals (π.filterMap (fun i => vs[i]?)) (π.filterMap (fun i => us[i]?))
  | [] => .nil
  | i :: π => by
    have ih := Vals.pick h π
    have hl := h.length
    cases e : vs[i]? with
    | none =>
      have e2 : us[i]? = none := by
        rw [List.getElem?_eq_none_iff] at e ⊢
        omega
      rw [List.filterMap_cons_none e, List.filterMap_cons_none e2]
      exact ih
    | some v =>
      obtain ⟨u, e2, r⟩ := h.get e
      rw [List.filterMap_cons_some e, List.filterMap_cons_some e2]
      exact .cons r ih
theorem kbinds_of {K : PySem.W.Frag} {fd : FuncData} {ps ks : List Str} {m n : Nat} {π : List Nat} (h0 : ps ≠ []) (h : ∀ us ws : List Value, us.length = m → ws.length = n → bindArgs fd ⟨us, ks.zip ws⟩ = pure (ps.zip (gK m n π us ws))) : KBinds K fd ps ks (gK m n π) (gK m n π) where
  to := fun s us ws _ hl => by
    by_cases hc : us.length = m ∧ ws.length = n
    · exact .of_eq (h us ws hc.1 hc.2)
    · unfold gK at hl
      rw [if_neg hc] at hl
      exact absurd (List.length_eq_zero_iff.mp hl.symm) h0
  rel := fun {vs us zs ws} h1 h2 => by
    have e1 := h1.length
    have e2 := h2.length
    unfold gK
    rw [e1, e2]
    split
    · exact Vals.pick (h1.append h2) π
    · exact .nil
section
variable {X : Cx} {CX : CXT} {k m n : Nat} {π : List Nat} {f : Addr} {fd : FuncData} {ps ks : List Str} {x : Str} {p pos : Pos} {e : Expr} {es : List Expr} {K : Kt} {B : Bg} {φ : List D → Sto → Res D} {l l2 : EL} {sp : Sp} {E : XK} {t tk : TA} {kws : List Keyword} {g : List Value → List Value → List Value} {gV : List V → List V → List V}
theorem pe_callK0 (F : FnOk X.prog X.w X.K X.mg X.base CX k f fd ps sp) (hr : Room k X.A) (hg : Gl X x) (hm : X.mg x = some (.ref f)) (hk : PySem.W.keepIn X.K (.ref f) = true) (hb : KBinds X.K fd ps ks g gV) (hx : Passes CX X E)
    (hkw : PK X kws tk) (hall : (backToKw pos (keywordEach kws X.env)).all (·.1.isSome) = true := by rfl) (hks : (backToKw pos (keywordEach kws X.env)).filterMap (·.1) = ks := by rfl)
    (hdb : (x == ("__debug__" : Str)) = false := by decide)
    (hpl : ((backTo pos (starEach [] X.env)).any (·.1) || (backToKw pos (keywordEach kws X.env)).any (·.1.isNone)) = false := by rfl) :
    PE X (.Call (.Name x p) [] kws pos) (tCallK sp gV E tNil tk) := by
  refine ⟨fun pins s σ H Q I h => ?_⟩
  refine wpAny_Call_Name_kw (ld_glob I hg hm ?_ hdb)
  refine PySem.W.callWith_KW0 (h₀ := X.base) I.ok.mod.kin hk hall (thn (hkw.run pos pins s σ H _ I h) fun ws s2 ⟨zs, H2, I2, rz, q2⟩ => ⟨I2.kIn, ?_⟩) hpl
  rw [hks]
  exact run_fnk (us := []) (vs := []) F hr hb hx I2 .nil rz q2
theorem kw_nil : PK X [] (tA K B eNil) := ⟨fun pos pins s σ H Q I ⟨F, ι, S, env, st, z0⟩ => by
  obtain ⟨d, S', e, k⟩ := Post.nr z0 (by intro x0 S0 zz; first | (cases zz; done) | (split at zz <;> first | (cases zz; done) | (split at zz <;> first | (cases zz; done) | (split at zz <;> first | (cases zz; done) | (split at zz <;> cases zz))))); clear z0
  cases e
  exact pk_nil.run pos pins s σ H Q I (k [] _ (Step.refl _) st.ok rfl)⟩
theorem kw_cons {nm : Option Str} {kpos : Pos} {fe : EE} (ha : PE X e (tD K B fe)) (hr : PK X kws (tA K B l)) : PK X (⟨nm, e, kpos⟩ :: kws) (tA K B (eCons fe l)) := ⟨fun pos pins s σ H Q I ⟨F, ι, S, env, st, z0⟩ => by
  refine (pk_cons ha hr).run pos pins s σ H Q I ?_
  refine ⟨F, ι, S, env, st, Post.bind_imp z0 fun x S1 z1 v1 c1 s1 o1 r1 => ?_⟩
  refine ⟨c1.F, c1.ι, S1, env, st.step s1 o1, Post.bind_imp z1 fun y S2 z2 v2 c2 s2 o2 r2 => ?_⟩
  exact z2 _ c2 (s1.trans s2) o2 ⟨v1, v2, rfl, s2.rp r1, r2⟩⟩
def eCallK (φ : List D → Sto → Res D) (m n : Nat) (π : List Nat) (l l2 : EL) : EE := fun env S => (l env S).bind fun ds S => (l2 env S).bind fun es S => (if (gK m n π ds es).length = π.length then φ (gK m n π ds es) S else .stuck).noex
theorem d_callK (F : FnOk X.prog X.w X.K X.mg X.base (L2.CX X.prog X.w) k f fd ps (spD K π.length φ)) (hr : Room k X.A) (hg : Gl X x) (hm : X.mg x = some (.ref f)) (hk : PySem.W.keepIn X.K (.ref f) = true) (hb : KBinds X.K fd ps ks (gK m n π) (gK m n π))
    (ha : PA X (e :: es) (tA K B l)) (hkw : PK X kws (tA K B l2)) (hall : (backToKw pos (keywordEach kws X.env)).all (·.1.isSome) = true := by rfl) (hks : (backToKw pos (keywordEach kws X.env)).filterMap (·.1) = ks := by rfl)
    (hdb : (x == ("__debug__" : Str)) = false := by decide) (he : starEach (e :: es) X.env = (false, eval e X.env) :: starEach es X.env := by rfl)
    (hpl : ((backTo pos (starEach (e :: es) X.env)).any (·.1) || (backToKw pos (keywordEach kws X.env)).any (·.1.isNone)) = false := by rfl) :
    PE X (.Call (.Name x p) (e :: es) kws pos) (tD K B (eCallK φ m n π l l2)) := (pe_callK (E := fun _ _ _ => False) F hr hg hm hk hb pass0X ha hkw hall hks hdb he hpl).imp fun σ H Q ⟨F, ι, S, env, st, z0⟩ => by
  refine ⟨F, ι, S, env, st, Post.bind_imp z0 fun ds S1 z1 vs c1 s1 o1 r1 => ?_⟩
  refine ⟨c1.F, c1.ι, S1, env, st.step s1 o1, Post.bind_imp z1 fun fs S2 z2 zs c2 s2 o2 r2 => ?_⟩
  obtain ⟨d, S', e, q⟩ := Post.noex z2
  clear z0 z1 z2
  split at e
  · rename_i hlen
    have r3 := (s2.rpAll r1).gK r2 (m := m) (n := n) (π := π)
    exact ⟨by rw [r3.len]; exact hlen, c2.F, c2.ι, S2, _, o2, r3, Post.of_ok e fun v c' s o r => q v c' ((s1.trans s2).trans s) o r⟩
  · cases e
theorem d_callK0 (F : FnOk X.prog X.w X.K X.mg X.base (L2.CX X.prog X.w) k f fd ps (spD K π.length φ)) (hr : Room k X.A) (hg : Gl X x) (hm : X.mg x = some (.ref f)) (hk : PySem.W.keepIn X.K (.ref f) = true) (hb : KBinds X.K fd ps ks (gK 0 n π) (gK 0 n π))
    (hkw : PK X kws (tA K B l2)) (hall : (backToKw pos (keywordEach kws X.env)).all (·.1.isSome) = true := by rfl) (hks : (backToKw pos (keywordEach kws X.env)).filterMap (·.1) = ks := by rfl)
    (hdb : (x == ("__debug__" : Str)) = false := by decide)
    (hpl : ((backTo pos (starEach [] X.env)).any (·.1) || (backToKw pos (keywordEach kws X.env)).any (·.1.isNone)) = false := by rfl) :
    PE X (.Call (.Name x p) [] kws pos) (tD K B (eCallK φ 0 n π eNil l2)) := (pe_callK0 (E := fun _ _ _ => False) F hr hg hm hk hb pass0X hkw hall hks hdb hpl).imp fun σ H Q ⟨F, ι, S, env, st, z0⟩ => by
  refine ⟨F, ι, S, env, st, Post.bind_imp (f := fun es S => (if (gK 0 n π [] es).length = π.length then φ (gK 0 n π [] es) S else .stuck).noex) z0 fun fs S2 z2 zs c2 s2 o2 r2 => ?_⟩
  obtain ⟨d, S', e, q⟩ := Post.noex z2
  clear z0 z2
  split at e
  · rename_i hlen
    have r3 := (show RpAll K c2.F c2.ι [] [] from rfl).gK r2 (m := 0) (n := n) (π := π)
    exact ⟨by rw [r3.len]; exact hlen, c2.F, c2.ι, S2, _, o2, r3, Post.of_ok e fun v c' s o r => q v c' (s2.trans s) o r⟩
  · cases e
end
end DL

/-! E18: a, b = x, y; insert; dicts that are written down. -/
namespace DL
open PySem PySem.Spec PyProof.Rows L2

section
variable {X : Cx} {K : Kt} {B : Bg} {a b e e1 e2 : Expr} {f g o k : EE} {l : EL} {pos px py pt pt2 cpos opos : Pos} {x y : Str} {kt0 k2 i j : Nat} {st : Stmt}
/-! ### a, b = x, y -/
def sPar (i j : Nat) (l : EL) : SS := fun env S => (l env S).bindS env fun ds S => match ds with
  | [d, e] => .ok (.nx ((env.set i (some (.sh d))).set j (some (.sh e)))) S
  | _ => .stuck
theorem s_par (h : PS X st (tPar i j (tA K B l))) : PS X st (tK K B (sPar i j l)) := h.imp fun E σ H ⟨F, ι, S, env, st, oo, S', e, q⟩ => by
  refine ⟨F, ι, S, env, st, (bindS_post e q).imp fun ds S1 e vs c1 s1 o1 r1 => ?_⟩
  split at e
  · cases e
    obtain ⟨v, r, rfl, h1, w, r2, rfl, h2, e3⟩ := r1
    cases (show r2 = [] from e3)
    have st1 := st.step s1 o1
    exact ⟨v, w, rfl, q _ c1 ⟨st1.ok, (st1.env.set_sh i h1).set_sh j h2, st1.st⟩ s1.adv⟩
  · cases e
/-! ### xs.insert(i, e), xs a thing that changes -/
def sIns (o k f : EE) : SS := fun env S => (o env S).bindS env fun x S => match x with
  | .mu n => (k env S).bindS env fun i S => (f env S).bindS env fun d S => match i with
    | .int j => (match S[n]? with
      | some ds => if ds.length ≤ 1000000 ∧ 0 ≤ j ∧ j < 1000000000 then .ok (.nx env) (S.set n (ds.take j.toNat ++ [d] ++ ds.drop j.toNat)) else .stuck
      | none => .stuck)
    | _ => .stuck
  | _ => .stuck
end
theorem Stt.mu_upd {K : Kt} {B : Bg} {c : Bas} {S : Sto} {σ : St} {env : Env} {n : Nat} {p : Addr} {ds : List D} {vs : List V} (st : Stt K B c S σ env) (hp : c.ι[n]? = some p) (hl : vs.length ≤ sizeLine) (r : RpAll K c.F c.ι ds vs) :
    Stt K B ⟨c.F, c.ι, upd c.H p (.lst vs)⟩ (S.set n ds) σ env := by
  have pm : p ∈ c.ι := List.mem_of_getElem? hp
  have pF : c.F p = none := st.ok.fi p pm
  have nH : ∃ ws, c.H p = some (.lst ws) := by
    obtain ⟨hn, _⟩ := List.getElem?_eq_some_iff.mp hp
    have hn' : n < S.length := by rw [← st.ok.len]; exact hn
    obtain ⟨ws, h1, _⟩ := st.ok.s n p S[n] hp (List.getElem?_eq_getElem hn')
    exact ⟨ws, h1⟩
  refine ⟨⟨fun b u q => ?_, st.ok.nd, by rw [List.length_set]; exact st.ok.len, st.ok.fi, fun m b es g1 g2 => ?_, st.ok.nt⟩, ⟨st.env.len, fun i x e => ?_, st.env.inj⟩, ⟨st.st.same, st.st.grow, fun b u q nb nt => ?_, fun b nb => ?_, st.st.pre, st.st.new, fun P q t => tab_upd nH.choose_spec pln_lst P q (st.st.tab P q t)⟩⟩
  · have hb : b ≠ p := fun z => by
      rw [z, show (Bas.mk c.F c.ι (upd c.H p (.lst vs))).F = c.F from rfl, pF] at q; cases q
    show upd c.H p (.lst vs) b = some u
    rw [upd_ne hb]
    exact st.ok.f b u q
  · by_cases hm : m = n
    · subst hm
      have hb : b = p := by
        have g1' : c.ι[m]? = some b := g1
        rw [hp] at g1'; exact (Option.some.inj g1').symm
      subst hb
      have hlt : m < S.length := by
        have := (List.getElem?_eq_some_iff.mp g2).1
        rw [List.length_set] at this
        exact this
      rw [List.getElem?_set_self hlt] at g2
      cases g2
      exact ⟨vs, upd_same, hl, r⟩
    · rw [List.getElem?_set_ne (fun z => hm z.symm)] at g2
      obtain ⟨ws, k1, k2, k3⟩ := st.ok.s m b es g1 g2
      have hb : b ≠ p := fun z => by
        subst z
        have g1' : c.ι[m]? = some b := g1
        obtain ⟨a1, b1⟩ := List.getElem?_eq_some_iff.mp g1'
        obtain ⟨a2, b2⟩ := List.getElem?_eq_some_iff.mp hp
        exact hm ((List.getElem_inj st.ok.nd).mp (b1.trans b2.symm))
      refine ⟨ws, ?_, k2, k3⟩
      show upd c.H p (.lst vs) b = some _
      rw [upd_ne hb]
      exact k1
  · obtain ⟨v, h1, h2⟩ := st.env.at_ i x e
    refine ⟨v, h1, ?_⟩
    cases x with
    | sh d => exact h2
    | fn _ => exact h2
    | own es =>
      obtain ⟨b, ws, e2, k1, k2, k3, k4, k5, k6⟩ := h2
      refine ⟨b, ws, e2, ?_, k2, k3, k4, k5, k6⟩
      show upd c.H p (.lst vs) b = some _
      rw [upd_ne (fun z => k5 (by rw [z]; exact pm))]
      exact k1
  · have hcb : c.H b = some u := st.st.fr b u q nb nt
    have hb : b ≠ p := fun z => by
      subst z
      rcases st.st.new b pm with r1 | r1
      · exact nb r1
      · rw [q] at r1; cases r1
    show upd c.H p (.lst vs) b = some u
    rw [upd_ne hb]
    exact hcb
  · show upd c.H p (.lst vs) b ≠ none
    by_cases hb : b = p
    · subst hb; rw [upd_same]; exact fun z => by cases z
    · rw [upd_ne hb]; exact st.st.dom b nb
section
variable {X : Cx} {K : Kt} {B : Bg} {a b e e1 e2 : Expr} {f g o k : EE} {l : EL} {pos px py pt pt2 cpos opos : Pos} {x y : Str} {kt0 k2 i j : Nat} {st : Stmt}
def rIns : V → List V → Hp → VK → Prop := fun x vs H Q => ∃ (l : Addr) (xs : List V) (i : Int) (y : V), x = .ref l ∧ vs = [.int i, y] ∧ H l = some (.lst xs) ∧ xs.length < sizeLine ∧ 0 ≤ i ∧ i < 2 ^ 63 ∧
    Q .non (upd H l (.lst (xs.take i.toNat ++ [y] ++ xs.drop i.toNat)))
theorem s_ins (hp : PS X st (tDrop (tBM (kt X) "list" rIns (tD (kt X) B o) (tCons (tD (kt X) B k) (tCons (tD (kt X) B f) tNil))))) : PS X st (tK (kt X) B (sIns o k f)) := hp.imp fun E σ H ⟨F, ι, S, env, st, oo, S', e, q⟩ => by
  refine ⟨F, ι, S, env, st, (bindS_post e q).imp fun x S1 e v1 c1 s1 o1 r1 => ?_⟩
  cases x with
  | mu n =>
    obtain ⟨p, ev, hp⟩ := r1
    subst ev
    have hn1 : n < S1.length := by
      rw [← o1.len]; exact (List.getElem?_eq_some_iff.mp hp).1
    obtain ⟨us, g1, g2, g3⟩ := o1.s n p S1[n] hp (List.getElem?_eq_getElem hn1)
    refine ⟨.inl ⟨rfl, us, SqL.of g1⟩, c1.F, c1.ι, S1, env, st.step s1 o1, (bindS_post e q).imp fun i S2 e v2 c2 s2 o2 r2 => ?_⟩
    refine ⟨c2.F, c2.ι, S2, env, st.step (s1.trans s2) o2, (bindS_post e q).imp fun d S3 e v3 c3 s3 o3 r3 => ?_⟩
    cases i with
    | int j =>
      have e' : (match S3[n]? with
        | some ds => if ds.length ≤ 1000000 ∧ 0 ≤ j ∧ j < 1000000000 then Res.ok (Out.nx env) (S3.set n (ds.take j.toNat ++ [d] ++ ds.drop j.toNat)) else .stuck
        | none => .stuck) = .ok oo S' := e
      cases hS : S3[n]? with
      | none => rw [hS] at e'; cases e'
      | some ds =>
        rw [hS] at e'
        have e'' : (if ds.length ≤ 1000000 ∧ 0 ≤ j ∧ j < 1000000000 then Res.ok (Out.nx env) (S3.set n (ds.take j.toNat ++ [d] ++ ds.drop j.toNat)) else .stuck) = .ok oo S' := e'
        split at e''
        · rename_i hz
          cases e''
          have hp3 : c3.ι[n]? = some p := pre_get s3.pre (pre_get s2.pre hp)
          obtain ⟨vs, k1, k2, k3⟩ := o3.s n p ds hp3 hS
          have hv : vs.length < sizeLine := by rw [k3.len]; exact Nat.lt_of_le_of_lt hz.1 (by decide)
          refine ⟨p, vs, j, v3, rfl, ?_, k1, hv, hz.2.1, Int.lt_trans hz.2.2 (by decide), ?_⟩
          · cases (show v2 = V.int j from r2); rfl
          have hl : (vs.take j.toNat ++ [v3] ++ vs.drop j.toNat).length ≤ sizeLine := by
            rw [List.length_append, List.length_append, List.length_take, List.length_drop, List.length_singleton]
            omega
          have st3 := (st.step ((s1.trans s2).trans s3) o3).mu_upd hp3 hl (((k3.take j.toNat).snoc r3).append (k3.drop j.toNat))
          exact q σ ⟨c3.F, c3.ι, _⟩ st3 ⟨((s1.trans s2).trans s3).same, ((s1.trans s2).trans s3).pre⟩
        · cases e''
    | _ => cases e
  | _ => cases e
theorem s_insA (ho : PE X a (tD (kt X) B o)) (hk : PE X e1 (tD (kt X) B k)) (h : PE X e2 (tD (kt X) B f)) (hs : starEach [e1, e2] X.env = (false, eval e1 X.env) :: starEach [e2] X.env := by rfl) (hs2 : starEach [e2] X.env = (false, eval e2 X.env) :: starEach [] X.env := by rfl)
    (hbase : attributeBase a "insert" X.env (eval a X.env) = eval a X.env := by rfl)
    (hfew : ((backTo cpos (starEach [e1, e2] X.env)).all (fun x => !x.1) && (backToKw cpos (keywordEach [] X.env)).all (fun x => x.1.isSome)
      && decide ([e1, e2].length + ([] : List Keyword).length + (if ([] : List Keyword).isEmpty then 0 else 1) < 30)) = true := by rfl)
    (hline : (opos.endLine == cpos.line) = true := by rfl) (hplain : (backTo cpos (starEach [e2] X.env)).any (·.1) = false := by rfl)
    (hsw : swapsWith (.Call (.Attribute a "insert" opos) [e1, e2] [] cpos) none pos.line X.env = pure false := by rfl) :
    PS X (.Expr (.Call (.Attribute a "insert" opos) [e1, e2] [] cpos) pos) (tK (kt X) B (sIns o k f)) :=
  s_ins (ps_expr (pe_bm PySem.F.plainAttrs_list PySem.F.slot_list_insert PySem.F.type_list_insert mt_insert ho (pa_cons hk (pa_cons h pa_nil (hs := hs2)) (hs := hs)) hbase hfew hline hs hplain) hsw)
end
end DL

/-! E19: dicts that are written down. -/
namespace DL
open PySem PySem.Spec PyProof.Rows L2

/-- {k: v}, k a tuple of ints and texts -/
def tDisp1T (tk tv : TE) : TE := fun σ H Q => ∀ p, H p = none → tk σ (upd H p (.dT [])) fun x H1 => tv σ H1 fun y H2 => ∃ b key, x = .ref b ∧ H2 p = some (.dT []) ∧ H2 b = some (.tup (List.map kV key)) ∧ Q (.ref p) (upd H2 p (.dT [(key, y)]))
theorem pe_disp1T {X : Cx} {k v : Expr} {tk tv : TE} {pos : Pos} (hu : X.A.units + 1 < cLine) (hk : PE X k tk) (hv : PE X v tv) : PE X (.Dict [some k] [v] pos) (tDisp1T tk tv) := by
  refine ⟨fun pins s σ H Q I q => ?_⟩
  have hn := I.hok.fresh (Nat.le_refl s.heap.objs.size)
  have I1 := I.laid (a := s.heap.objs.size) (o := .dT []) (h' := s.heap.push { cls := .type "dict", data := .dict #[] }) (t' := s.toks) (fun _ _ q => Heap.get?_push_of_some _ q) (Nat.le_refl _) (dt_empty s.heap I.big)
  have q0 := q _ hn
  rw [arm_eval_Dict, zip_pairTrees [some k] [v] X.env pos rfl rfl, dictDisplay_pairs _ (by simp [pairTrees]) (by simp [pairTrees])]
  refine wpAny_bind (wpAny_standAt (wpAny_bind ?_))
  unfold subDict
  refine wpAny_bind (wpAny_alloc ?_)
  refine wpAny_bind (wpAny_holding ?_)
  rw [if_pos (by simp [pairTrees])]
  refine wpAny_bind (pairTrees_cons_walk (thn (hk.run pins _ σ _ _ I1 q0) fun u s1 ⟨x, H1, I2, rx, q1⟩ => thn (hv.run pins s1 σ H1 _ I2 q1) fun w2 s2 ⟨y, H2, I3, ry, b, key, ex, hp, hb, q2⟩ => pairTrees_nil_walk ?_))
  subst ex
  obtain rfl : u = Value.ref b := rx
  refine wpAny_holding (wpAny_bind ?_)
  rw [List.forIn_cons]
  obtain ⟨z, hd, xs, rel, dd⟩ := dt_of I3.hok hp
  cases rel
  refine wpAny_bind (wpAny_bind (wpAny_dictSet_heap (knd := tupleKind (mixKind X.prog X.w)) (hsz := Nat.zero_le _) (show (tupleKind (mixKind X.prog X.w)).room X.A from (show X.A.units < cLine by omega)) (key_of I3.hok hb) dd fun h' dd' hs => wpAny_pure ?_))
  show wpAny (model X.prog X.w) X.A (pure PUnit.unit) _ _ _
  refine wpAny_pure (wpAny_pure (wpAny_pure (wpAny_pure ⟨.ref s.heap.objs.size, _, ?_, rfl, q2⟩)))
  obtain ⟨qq, es, ep, hq, h2, h3, h4, _, h5⟩ := dd'
  refine d_write I3 (by rw [hp]; exact True.intro) hs ⟨qq, hq⟩ ⟨by simp [sizeLine_eq], hd, _, ((KT.put (kvs := []) (xs := []) .nil key hb ry).keeps fun c ys ec => ?_), qq, es, ep, hq, h2, h3, h4, h5⟩
  rw [upd_ne (ne_of ec hp (fun z => nomatch z))]
  exact ec
end DL

/-! E20: dicts that are written down, as data. -/
namespace DL
open PySem PySem.Spec PyProof.Rows L2
section
variable {K : Kt} {B : Bg}
/-- a new thing at p, which never changes -/
theorem new_obj {c : Bas} {S : Sto} {p : Addr} (ob : HO) (hnt : ∀ ps, ob ≠ .tbl ps) (ok : Sok K c S) (hp : c.H p = none) :
    Step c ⟨upd c.F p ob, c.ι, upd c.H p ob⟩ ∧ Sok K ⟨upd c.F p ob, c.ι, upd c.H p ob⟩ S ∧ Same c.F (upd c.F p ob) := by
  have hF : c.F p = none := by
    cases q : c.F p with
    | none => rfl
    | some o => rw [ok.f p o q] at hp; cases hp
  have hι : p ∉ c.ι := fun hm => by
    obtain ⟨n, hn, e⟩ := List.mem_iff_getElem.mp hm
    have hn' : n < S.length := by rw [← ok.len]; exact hn
    obtain ⟨ws, h1, _⟩ := ok.s n p S[n] (by rw [List.getElem?_eq_getElem hn, e]) (List.getElem?_eq_getElem hn')
    rw [hp] at h1; cases h1
  have kp : ∀ a o, c.H a = some o → upd c.H p ob a = some o := fun a o e => by
    rw [upd_ne (ne_of_none e hp)]
    exact e
  have kF : Same c.F (upd c.F p ob) := fun a o e => by
    rw [upd_ne (ne_of_none e hF)]
    exact e
  refine ⟨⟨kF, fun a o e => ?_, fun a o e _ _ => kp a o e, fun a n => ?_, List.prefix_rfl, fun _ h => .inl h, tab_all kp⟩, ⟨fun a o e => ?_, ok.nd, ok.len, fun a ha => ?_, fun n a es h1 h2 => ?_, nt_upd ok.nt hnt⟩, kF⟩
  · by_cases hb : a = p
    · subst hb; exact .inr hp
    · have e' : upd c.F p ob a = some o := e
      rw [upd_ne hb] at e'
      exact .inl e'
  · cases q : c.H a with
    | none => exact absurd q n
    | some o =>
      show upd c.H p ob a ≠ none
      rw [kp a o q]
      exact fun z => by cases z
  · have e' : upd c.F p ob a = some o := e
    by_cases hb : a = p
    · subst hb
      rw [upd_same] at e'
      rw [← e']
      exact upd_same
    · rw [upd_ne hb] at e'
      exact kp a o (ok.f a o e')
  · show upd c.F p ob a = none
    rw [upd_ne (fun z => hι (by rw [← z]; exact ha))]
    exact ok.fi a ha
  · obtain ⟨ws, g1, g2, g3⟩ := ok.s n a es h1 h2
    exact ⟨ws, kp _ _ g1, g2, RpAll.mono kF List.prefix_rfl _ _ g3⟩
/-- a new thing at p, which is not data yet -/
theorem new_hid {c : Bas} {S : Sto} {p : Addr} (ob : HO) (ok : Sok K c S) (hp : c.H p = none) :
    Step c ⟨c.F, c.ι, upd c.H p ob⟩ ∧ Sok K ⟨c.F, c.ι, upd c.H p ob⟩ S ∧ LAt ⟨c.F, c.ι, upd c.H p ob⟩ p ob := by
  have hF : c.F p = none := by
    cases q : c.F p with
    | none => rfl
    | some o => rw [ok.f p o q] at hp; cases hp
  have hι : p ∉ c.ι := fun hm => by
    obtain ⟨n, hn, e⟩ := List.mem_iff_getElem.mp hm
    have hn' : n < S.length := by rw [← ok.len]; exact hn
    obtain ⟨ws, h1, _⟩ := ok.s n p S[n] (by rw [List.getElem?_eq_getElem hn, e]) (List.getElem?_eq_getElem hn')
    rw [hp] at h1; cases h1
  have kp : ∀ a o, c.H a = some o → upd c.H p ob a = some o := fun a o e => by
    rw [upd_ne (ne_of_none e hp)]
    exact e
  refine ⟨⟨Same.refl _, fun _ _ h => .inl h, fun a o e _ _ => kp a o e, fun a n => ?_, List.prefix_rfl, fun _ h => .inl h, tab_all kp⟩, ⟨fun a o e => kp a o (ok.f a o e), ok.nd, ok.len, ok.fi, fun n a es h1 h2 => ?_, ok.nt⟩, ⟨upd_same, hF, hι⟩⟩
  · cases q : c.H a with
    | none => exact absurd q n
    | some o =>
      show upd c.H p ob a ≠ none
      rw [kp a o q]
      exact fun z => by cases z
  · obtain ⟨ws, g1, g2, g3⟩ := ok.s n a es h1 h2
    exact ⟨ws, kp _ _ g1, g2, g3⟩

theorem LAt.stepO {c c' : Bas} {a : Addr} {o : HO} (h : LAt c a o) (s : Step c c') (ht : ∀ ps, o ≠ .tbl ps) : LAt c' a o := by
  obtain ⟨h1, h3, h4⟩ := h
  refine ⟨s.fr a _ h1 h4 ht, ?_, fun hm => ?_⟩
  · cases q : c'.F a with
    | none => rfl
    | some o =>
      rcases s.grow a o q with r | r
      · rw [h3] at r; cases r
      · rw [h1] at r; cases r
  · rcases s.new a hm with r | r
    · exact h4 r
    · rw [h1] at r; cases r
/-- a thing that was new becomes data, as o -/
theorem pln_dk {kvs : List (Key × V)} : Pln (.dK kvs) := ⟨fun _ z => (by cases z), fun _ _ z => by unfold LamX.CodeO at z; cases z⟩
theorem pln_dt {kvs : List (List Key × V)} : Pln (.dT kvs) := ⟨fun _ z => (by cases z), fun _ _ z => by unfold LamX.CodeO at z; cases z⟩
theorem LAt.data {c c' : Bas} {S : Sto} {p : Addr} {o o' : HO} (h : LAt c' p o) (hpl : Pln o) (hnt : ∀ ps, o' ≠ .tbl ps) (s : Step c c') (ok : Sok K c' S) (hp : c.H p = none) :
    Step c ⟨upd c'.F p o', c'.ι, upd c'.H p o'⟩ ∧ Sok K ⟨upd c'.F p o', c'.ι, upd c'.H p o'⟩ S ∧ Same c'.F (upd c'.F p o') := by
  obtain ⟨h1, h3, h4⟩ := h
  have sm : Same c'.F (upd c'.F p o') := fun b u q => by
    rw [upd_ne (ne_of_none q h3)]
    exact q
  have s2 := s.upd_new (o := o') hp h1 hpl
  have ok2 := ok.upd (o := o') h3 h4
  refine ⟨⟨s2.same.trans sm, fun b u q => ?_, s2.fr, s2.dom, s2.pre, s2.new, s2.tab⟩, ⟨fun b u q => ?_, ok2.nd, ok2.len, fun b hb => ?_, fun n b es g1 g2 => ?_, nt_upd ok2.nt hnt⟩, sm⟩
  · have q' : upd c'.F p o' b = some u := q
    by_cases hb : b = p
    · subst hb; exact .inr hp
    · rw [upd_ne hb] at q'
      exact s.grow b u q'
  · have q' : upd c'.F p o' b = some u := q
    show upd c'.H p o' b = some u
    by_cases hb : b = p
    · subst hb
      rw [upd_same] at q' ⊢
      exact q'
    · rw [upd_ne hb] at q' ⊢
      exact ok.f b u q'
  · show upd c'.F p o' b = none
    rw [upd_ne (fun z => h4 (by rw [← z]; exact hb))]
    exact ok.fi b hb
  · obtain ⟨ws, k1, k2, k3⟩ := ok2.s n b es g1 g2
    exact ⟨ws, k1, k2, RpAll.mono sm List.prefix_rfl _ _ k3⟩
end
/-! keys -/
def keyOf : D → Option Key
  | .int i => some (.inl i)
  | .str x => some (.inr x)
  | _ => none
def keysOf : List D → Option (List Key)
  | [] => some []
  | d :: ds => (keyOf d).bind fun k => (keysOf ds).bind fun ks => some (k :: ks)
theorem keyOf_ok {K : Kt} {F : Hp} {ι : List Addr} {d : D} {v : V} {k : Key} (r : Rp K F ι d v) (h : keyOf d = some k) : v = kV k ∧ d = keyD k := by
  cases d with
  | int i => cases h; exact ⟨r, rfl⟩
  | str i => cases h; exact ⟨r, rfl⟩
  | non => cases h
  | bl b => cases h
  | lst b => cases h
  | tup b => cases h
  | mu b => cases h
  | ty b => cases h
  | dct a b => cases h
  | exn a b c => cases h
  | obj a b c => cases h
theorem keysOf_ok {K : Kt} {F : Hp} {ι : List Addr} : ∀ {ds : List D} {vs : List V} {ks : List Key}, RpAll K F ι ds vs → keysOf ds = some ks → vs = ks.map kV ∧ ds = ks.map keyD
  | [], _, _, r, h => by cases h; exact ⟨r, rfl⟩
  | d :: ds, _, ks, ⟨v, w, e, h1, h2⟩, h => by
    obtain ⟨k, e1, h⟩ := Option.bind_eq_some_iff.mp h
    obtain ⟨ks', e2, h⟩ := Option.bind_eq_some_iff.mp h
    cases h
    obtain ⟨a1, a2⟩ := keyOf_ok h1 e1
    obtain ⟨b1, b2⟩ := keysOf_ok h2 e2
    subst e
    rw [a1, a2, b1, b2]
    exact ⟨rfl, rfl⟩
section
variable {X : Cx} {K : Kt} {B : Bg} {es : List Expr} {v : Expr} {l : EL} {f : EE} {pos p2 : Pos} {x1 : Nat}
def eDct0 : EE := fun _ S => .ok (.dct [] []) S
theorem d_dct0 : PE X (.Dict [] [] pos) (tD K B eDct0) := pe_dnewK.imp fun σ H Q ⟨F, ι, S, env, st, z0⟩ => by
  obtain ⟨d, S', e, q⟩ := Post.nr z0 (by intro x0 S0 zz; first | (cases zz; done) | (split at zz <;> first | (cases zz; done) | (split at zz <;> first | (cases zz; done) | (split at zz <;> first | (cases zz; done) | (split at zz <;> cases zz))))); clear z0
  cases e
  intro p hp
  obtain ⟨s1, o1, _⟩ := new_obj (c := ⟨F, ι, H⟩) (.dK []) (fun ps z => by cases z) st.ok hp
  exact q _ ⟨_, _, _⟩ s1 o1 ⟨p, [], rfl, .inl ⟨[], upd_same, rfl, rfl⟩, rfl⟩
def eDct1T (l : EL) (f : EE) : EE := fun env S => ((l env S).bind fun ks S => (f env S).bind fun d S => match keysOf ks with
  | some _ => if ks.length ≤ 1000 then .ok (.dct [.tup ks] [d]) S else .stuck
  | none => .stuck).noex
theorem d_dct1T (hu : X.A.units + 64 < cLine) (ha : PA X es (tA K B l)) (hv : PE X v (tD K B f)) : PE X (.Dict [some (.Tuple es x1 p2)] [v] pos) (tD K B (eDct1T l f)) := (pe_disp1T (by omega) (pe_tup ha) hv).imp fun σ H Q ⟨F, ι, S, env, st, z0⟩ => by
  obtain ⟨d, S', e, q⟩ := Post.noex z0; clear z0
  obtain ⟨ks, S1, e1, e⟩ := Res.bind_ok e
  obtain ⟨dv, S2, e2, e⟩ := Res.bind_ok e
  split at e
  · rename_i kk hk
    split at e
    · rename_i hz
      cases e
      intro p hp
      obtain ⟨s0, o0, la⟩ := new_hid (c := ⟨F, ι, H⟩) (.dT []) st.ok hp
      refine ⟨F, ι, S, env, st.step s0 o0, Post.of_ok e1 fun vs c1 s1 o1 r1 => ?_⟩
      have hl : vs.length ≤ sizeLine := by rw [r1.len]; exact sz1000 hz
      refine ⟨hl, fun b hb => ?_⟩
      obtain ⟨s2, o2, sm2⟩ := new_obj (c := c1) (.tup vs) (fun ps z => by cases z) o1 hb
      refine ⟨upd c1.F b (.tup vs), c1.ι, S1, env, st.step ((s0.trans s1).trans s2) o2, Post.of_ok e2 fun y c3 s3 o3 r3 => ?_⟩
      have la3 : LAt c3 p (.dT []) := LAt.stepO la ((s1.trans s2).trans s3) (fun ps z => by cases z)
      obtain ⟨ek, ed⟩ := keysOf_ok r1 hk
      have hbF : c3.F b = some (.tup vs) := s3.same b _ (show upd c1.F b (.tup vs) b = some (.tup vs) from upd_same)
      refine ⟨b, kk, rfl, la3.1, by rw [← ek]; exact o3.f b _ hbF, ?_⟩
      obtain ⟨s4, o4, sm4⟩ := LAt.data (c := ⟨F, ι, H⟩) (o' := .dT [(kk, y)]) la3 pln_dt (fun ps z => by cases z) ((s0.trans s1).trans (s2.trans s3)) o3 hp
      refine q _ ⟨_, _, _⟩ s4 o4 ⟨p, [y], rfl, .inr ⟨[(kk, y)], upd_same, ?_, rfl⟩, ⟨y, [], rfl, Rp.mono sm4 List.prefix_rfl _ _ r3, rfl⟩⟩
      rw [ed]
      rfl
    · cases e
  · cases e
end
end DL

/-! E21: {k: v, ..} with keys ints and texts, as data. -/
namespace DL
open PySem PySem.Spec PyProof.Rows L2
theorem mergeK_nodup : ∀ (more acc : List (Key × V)), ((acc ++ more).map Prod.fst).Nodup → mergeK acc more = acc ++ more
  | [], acc, _ => by rw [List.append_nil]; rfl
  | p :: r, acc, h => by
    have hp : putK acc p.1 p.2 = acc ++ [p] := by
      unfold putK
      rw [if_neg]
      intro ha
      rw [List.any_eq_true] at ha
      obtain ⟨q, hq, e⟩ := ha
      have e' : q.1 = p.1 := by simpa using e
      rw [List.map_append, List.nodup_append] at h
      exact h.2.2 q.1 (List.mem_map_of_mem hq) p.1 (by simp) e'
    show mergeK (putK acc p.1 p.2) r = _
    rw [hp, mergeK_nodup r (acc ++ [p]) (by simpa using h)]
    simp
def evP : List (EE × EE) → Env → Sto → Res (List (D × D))
  | [], _, S => .ok [] S
  | p :: r, env, S => (p.1 env S).bind fun k S => (p.2 env S).bind fun v S => (evP r env S).bind fun ps S => .ok ((k, v) :: ps) S
def PRel (K : Kt) (c : Bas) : List (D × D) → List (V × V) → Prop
  | [], vs => vs = []
  | p :: ps, vs => ∃ x y r, vs = (x, y) :: r ∧ Rp K c.F c.ι p.1 x ∧ Rp K c.F c.ι p.2 y ∧ PRel K c ps r
theorem PRel.keys {K : Kt} {c : Bas} : ∀ {ps : List (D × D)} {vs : List (V × V)}, PRel K c ps vs → RpAll K c.F c.ι (ps.map Prod.fst) (vs.map Prod.fst)
  | [], _, h => by cases (show _ = [] from h); exact rfl
  | p :: ps, _, ⟨x, y, r, e, h1, h2, h3⟩ => by subst e; exact ⟨x, _, rfl, h1, PRel.keys h3⟩
theorem PRel.vals {K : Kt} {c : Bas} : ∀ {ps : List (D × D)} {vs : List (V × V)}, PRel K c ps vs → RpAll K c.F c.ι (ps.map Prod.snd) (vs.map Prod.snd)
  | [], _, h => by cases (show _ = [] from h); exact rfl
  | p :: ps, _, ⟨x, y, r, e, h1, h2, h3⟩ => by subst e; exact ⟨y, _, rfl, h2, PRel.vals h3⟩
theorem pairsD_of {K : Kt} {B : Bg} : ∀ (fs : List (EE × EE)) {σ : St} {H : Hp} {Q : List (V × V) → Hp → Prop},
    (∃ F ι S env, Stt K B ⟨F, ι, H⟩ S σ env ∧ ∃ ps S', evP fs env S = .ok ps S' ∧ ∀ vps c', Step ⟨F, ι, H⟩ c' → Sok K c' S' → PRel K c' ps vps → Q vps c'.H) →
    L2.tPairs (fs.map fun p => (tD K B p.1, tD K B p.2)) σ H Q
  | [], σ, H, Q, ⟨F, ι, S, env, st, ps, S', e, q⟩ => by
    cases e
    exact q [] _ (Step.refl _) st.ok rfl
  | p :: r, σ, H, Q, ⟨F, ι, S, env, st, ps, S', e, q⟩ => by
    obtain ⟨k, S1, e1, e⟩ := Res.bind_ok e
    obtain ⟨v, S2, e2, e⟩ := Res.bind_ok e
    obtain ⟨zs, S3, e3, e⟩ := Res.bind_ok e
    cases e
    refine ⟨F, ι, S, env, st, Post.of_ok e1 fun x c1 s1 o1 r1 => ?_⟩
    refine ⟨c1.F, c1.ι, S1, env, st.step s1 o1, Post.of_ok e2 fun y c2 s2 o2 r2 => ?_⟩
    refine pairsD_of r ⟨c2.F, c2.ι, S2, env, st.step (s1.trans s2) o2, zs, _, e3, fun vps c3 s3 o3 r3 => ?_⟩
    exact q _ c3 ((s1.trans s2).trans s3) o3 ⟨x, y, vps, rfl, s3.rp (s2.rp r1), s3.rp r2, r3⟩
def eDctK (fs : List (EE × EE)) : EE := fun env S => ((evP fs env S).bind fun ps S => match keysOf (ps.map Prod.fst) with
  | some ks => if ks.Nodup ∧ ps.length ≤ 15 then .ok (.dct (ps.map Prod.fst) (ps.map Prod.snd)) S else .stuck
  | none => .stuck).noex
theorem zipKV : ∀ {ps : List (V × V)} {ks : List Key}, ps.map Prod.fst = ks.map kV → ∃ kvs : List (Key × V), ps = kvs.map (fun kv => (kV kv.1, kv.2)) ∧ kvs.map Prod.fst = ks ∧ kvs.map Prod.snd = ps.map Prod.snd
  | [], [], _ => ⟨[], rfl, rfl, rfl⟩
  | [], _ :: _, h => by cases h
  | _ :: _, [], h => by cases h
  | p :: ps, k :: ks, h => by
    rw [List.map_cons, List.map_cons, List.cons.injEq] at h
    obtain ⟨kvs, e1, e2, e3⟩ := zipKV h.2
    refine ⟨(k, p.2) :: kvs, ?_, by rw [List.map_cons, e2], by rw [List.map_cons, List.map_cons, e3]⟩
    rw [List.map_cons, ← e1, ← h.1]
section
variable {X : Cx} {K : Kt} {B : Bg} {keys : List (Option Expr)} {values : List Expr} {fs : List (EE × EE)} {pos : Pos}
theorem d_dctK (h : PPs X pos keys values (fs.map fun p => (tD K B p.1, tD K B p.2))) (hall : keys.all (·.isSome) = true := by rfl) (hl : keys.length = values.length := by rfl) (h0 : keys ≠ [] := by exact fun z => by cases z)
    (h15 : keys.length ≤ 15 := by decide) : PE X (.Dict keys values pos) (tD K B (eDctK fs)) := (pe_disp h hall hl h0 h15).imp fun σ H Q ⟨F, ι, S, env, st, z0⟩ => by
  obtain ⟨d, S', e, q⟩ := Post.noex z0; clear z0
  obtain ⟨ps, S1, e1, e⟩ := Res.bind_ok e
  split at e
  · rename_i ks hk
    split at e
    · rename_i hz
      cases e
      intro p hp
      obtain ⟨s0, o0, la⟩ := new_hid (c := ⟨F, ι, H⟩) (.dK []) st.ok hp
      refine pairsD_of fs ⟨F, ι, S, env, st.step s0 o0, ps, _, e1, fun vps c1 s1 o1 r1 => ?_⟩
      have la1 : LAt c1 p (.dK []) := LAt.stepO la s1 (fun ps z => by cases z)
      obtain ⟨ek, ed⟩ := keysOf_ok r1.keys hk
      obtain ⟨kvs, g1, g2, g3⟩ := zipKV ek
      have hn : ((([] : List (Key × V)) ++ kvs).map Prod.fst).Nodup := by rw [List.nil_append, g2]; exact hz.1
      have hlen : kvs.length ≤ 15 := by
        have a1 : kvs.length = ks.length := by rw [← g2, List.length_map]
        have a2 : (ps.map Prod.fst).length = ks.length := by rw [ed, List.length_map]
        rw [List.length_map] at a2
        omega
      refine ⟨la1.1, kvs, g1, hlen, ?_⟩
      rw [mergeK_nodup _ _ hn, List.nil_append]
      obtain ⟨s4, o4, sm4⟩ := LAt.data (c := ⟨F, ι, H⟩) (o' := .dK kvs) la1 pln_dk (fun ps z => by cases z) (s0.trans s1) o1 hp
      refine q _ ⟨_, _, _⟩ s4 o4 ⟨p, kvs.map Prod.snd, rfl, .inl ⟨kvs, upd_same, ?_, rfl⟩, ?_⟩
      · rw [ed, ← g2, List.map_map]
        rfl
      · rw [g3]
        exact RpAll.mono sm4 List.prefix_rfl _ _ r1.vals
    · cases e
  · cases e
end
end DL

/-! E13: evaluation of the shallow terms. -/
namespace DL
open PySem PySem.Spec PyProof.Rows L2
theorem Res.bind_eq {α β : Type} (a : α) (S : Sto) (f : α → Sto → Res β) : Res.bind (.ok a S) f = f a S := rfl
/-- it ends well, and then .. -/
def Ev {α : Type} (r : Res α) (Q : α → Sto → Prop) : Prop := ∃ a S', r = .ok a S' ∧ Q a S'
theorem Ev.bind {α β : Type} {r : Res α} {f : α → Sto → Res β} {Q : β → Sto → Prop} : Ev (r.bind f) Q = Ev r fun a S => Ev (f a S) Q := by
  cases r with
  | ok a S => exact propext ⟨fun h => ⟨a, S, rfl, h⟩, fun ⟨_, _, e, h⟩ => (by cases e; exact h)⟩
  | ex x S => exact propext ⟨fun ⟨_, _, e, _⟩ => (by cases e), fun ⟨_, _, e, _⟩ => (by cases e)⟩
  | stuck => exact propext ⟨fun ⟨_, _, e, _⟩ => (by cases e), fun ⟨_, _, e, _⟩ => (by cases e)⟩
theorem Ev.noex {α : Type} {r : Res α} {Q : α → Sto → Prop} : Ev r.noex Q = Ev r Q := by
  cases r with
  | ok a S => rfl
  | ex x S => exact propext ⟨fun ⟨_, _, e, _⟩ => (by cases e), fun ⟨_, _, e, _⟩ => (by cases e)⟩
  | stuck => rfl
theorem Ev.imp {α : Type} {r : Res α} {Q Q' : α → Sto → Prop} (h : Ev r Q) (i : ∀ a S, Q a S → Q' a S) : Ev r Q' := by
  obtain ⟨a, S, e, q⟩ := h
  exact ⟨a, S, e, i a S q⟩
theorem Ev.of {α : Type} {r : Res α} {a : α} {S : Sto} {Q : α → Sto → Prop} (e : r = .ok a S) : Ev r Q = Q a S := by
  subst e
  exact propext ⟨fun ⟨_, _, e, h⟩ => (by cases e; exact h), fun h => ⟨_, _, rfl, h⟩⟩
theorem ev_no {α : Type} {Q : α → Sto → Prop} : Ev (.stuck : Res α) Q = False := propext ⟨fun ⟨_, _, e, _⟩ => (by cases e), False.elim⟩
theorem Ev.eq {α : Type} {r : Res α} {a : α} {S : Sto} (h : Ev r fun b S' => b = a ∧ S' = S) : r = .ok a S := by
  obtain ⟨b, S', e, rfl, rfl⟩ := h
  exact e
/-! the names' places, in such a form that simp meets them from without -/
def withSet (env : Env) (i : Nat) (x : Option Slot) (k : Env → Prop) : Prop := k (env.set i x)
def withOwn (env : Env) (i : Nat) (k : List D → Prop) : Prop := match env[i]? with | some (some (.own ds)) => k ds | _ => False
def withFrz (env : Env) (i : Nat) (k : Env → Prop) : Prop := match env[i]? with | some (some (.own ds)) => k (env.set i (some (.sh (.lst ds)))) | _ => k env
def withWipe (env : Env) (vs : List Nat) (k : Env → Prop) : Prop := k (wipeE env vs)
def withG (g : GE) (d : D) (env : Env) (k : Env → Prop) : Prop := match g d env with | some e => k e | none => False
@[simp ↓] theorem ws_0 {a x : Option Slot} {r : Env} {k : Env → Prop} : withSet (a :: r) 0 x k = k (x :: r) := rfl
@[simp ↓] theorem ws_s {a x : Option Slot} {r : Env} {i : Nat} {k : Env → Prop} : withSet (a :: r) (i + 1) x k = withSet r i x fun r => k (a :: r) := rfl
@[simp ↓] theorem wo_0 {ds : List D} {r : Env} {k : List D → Prop} : withOwn (some (.own ds) :: r) 0 k = k ds := rfl
@[simp ↓] theorem wo_s {a : Option Slot} {r : Env} {i : Nat} {k : List D → Prop} : withOwn (a :: r) (i + 1) k = withOwn r i k := rfl
@[simp ↓] theorem wf_0 {ds : List D} {r : Env} {k : Env → Prop} : withFrz (some (.own ds) :: r) 0 k = k (some (.sh (.lst ds)) :: r) := rfl
@[simp ↓] theorem wf_1 {d : D} {r : Env} {k : Env → Prop} : withFrz (some (.sh d) :: r) 0 k = k (some (.sh d) :: r) := rfl
@[simp ↓] theorem wf_2 {r : Env} {k : Env → Prop} : withFrz (none :: r) 0 k = k (none :: r) := rfl
@[simp ↓] theorem wf_s {a : Option Slot} {r : Env} {i : Nat} {k : Env → Prop} : withFrz (a :: r) (i + 1) k = withFrz r i fun r => k (a :: r) := by
  show (match r[i]? with | some (some (.own ds)) => k ((a :: r).set (i + 1) (some (.sh (.lst ds)))) | _ => k (a :: r)) = match r[i]? with | some (some (.own ds)) => k (a :: r.set i (some (.sh (.lst ds)))) | _ => k (a :: r)
  rfl
@[simp ↓] theorem ww_0 {env : Env} {k : Env → Prop} : withWipe env [] k = k env := rfl
@[simp ↓] theorem ww_s {env : Env} {i : Nat} {vs : List Nat} {k : Env → Prop} : withWipe env (i :: vs) k = withWipe env vs fun e => withSet e i none k := rfl
@[simp ↓] theorem wg_n {i : Nat} {d : D} {env : Env} {k : Env → Prop} : withG (gN i) d env k = withSet env i (some (.sh d)) k := rfl
@[simp ↓] theorem wg_2 {g h : GE} {a b : D} {env : Env} {k : Env → Prop} : withG (gTp 2 (gsCons g (gsCons h gsNil))) (.tup [a, b]) env k = withG g a env fun e => withG h b e k := by
  show (match (g a env).bind (fun e => (h b e).bind fun e => some e) with | some e => k e | none => False) = match g a env with | some e => (match h b e with | some e => k e | none => False) | none => False
  cases g a env with
  | none => rfl
  | some e =>
    show (match (h b e).bind fun e => some e with | some e => k e | none => False) = match h b e with | some e => k e | none => False
    generalize h b e = z
    cases z <;> rfl
@[simp ↓] theorem wg_2l {g h : GE} {a b : D} {env : Env} {k : Env → Prop} : withG (gTp 2 (gsCons g (gsCons h gsNil))) (.lst [a, b]) env k = withG g a env fun e => withG h b e k := wg_2
theorem withG.out {g : GE} {d : D} {env : Env} {k : Env → Prop} (h : withG g d env k) : ∃ e, g d env = some e ∧ k e := by
  unfold withG at h
  split at h
  · rename_i e he; exact ⟨e, he, h⟩
  · exact h.elim
section
variable {α β : Type} {env : Env} {S : Sto} {f g h : EE} {l l' : EL} {p q : ET} {s t : SS} {i j : Nat} {a b d : D} {ds es : List D} {op : OpA} {opn : OpN} {o o' : Op2} {k m : Int}
variable {Q : D → Sto → Prop} {QL : List D → Sto → Prop} {QT : Bool → Sto → Prop} {QS : Out → Sto → Prop}
@[simp ↓] theorem ev_ok {α : Type} {a : α} {S : Sto} {Q : α → Sto → Prop} : Ev (.ok a S) Q = Q a S := Ev.of rfl
@[simp ↓] theorem ev_ite {α : Type} {c : Prop} [Decidable c] {r r' : Res α} {Q : α → Sto → Prop} : Ev (if c then r else r') Q = if c then Ev r Q else Ev r' Q := by split <;> rfl
@[simp ↓] theorem ev_eC : Ev (eC d env S) Q = Q d S := Ev.of rfl
@[simp ↓] theorem ev_eV0 {r : Env} : Ev (eV 0 (some (.sh d) :: r) S) Q = Q d S := Ev.of rfl
@[simp ↓] theorem ev_eVs {x : Option Slot} {r : Env} : Ev (eV (i + 1) (x :: r) S) Q = Ev (eV i r S) Q := rfl
@[simp ↓] theorem ev_eVb0 {r : Env} : Ev (eVb 0 (some (.sh d) :: r) S) Q = Q d S := Ev.of rfl
@[simp ↓] theorem ev_eVbo {r : Env} : Ev (eVb 0 (some (.own ds) :: r) S) Q = Q (.lst ds) S := Ev.of rfl
@[simp ↓] theorem ev_eVbs {x : Option Slot} {r : Env} : Ev (eVb (i + 1) (x :: r) S) Q = Ev (eVb i r S) Q := rfl
@[simp ↓] theorem ev_eBin : Ev (eBin o f g env S) Q = Ev (f env S) fun x S => Ev (g env S) fun y S => Ev (o x y S) Q := by
  show Ev (Res.bind _ _) Q = _
  simp only [Ev.bind, Ev.noex]
@[simp ↓] theorem ev_oAdd : Ev (oAdd (.int k) (.int m) S) Q = Q (.int (k + m)) S := Ev.of rfl
@[simp ↓] theorem ev_oSub : Ev (oSub (.int k) (.int m) S) Q = Q (.int (k - m)) S := Ev.of rfl
theorem ev_oMul (h : (-(2 ^ 64) < k ∧ k < 2 ^ 64) ∨ (-(2 ^ 64) < m ∧ m < 2 ^ 64)) : Ev (oMul (.int k) (.int m) S) Q = Q (.int (k * m)) S := Ev.of (by
  show (match (if _ then some (D.int (k * m)) else none) with | some d => Res.ok d S | none => .stuck) = _
  rw [if_pos h])
theorem ev_oMod (h : 0 < m) : Ev (oMod (.int k) (.int m) S) Q = Q (.int (k % m)) S := Ev.of (by
  show (match (if _ then some (D.int (k % m)) else none) with | some d => Res.ok d S | none => .stuck) = _
  rw [if_pos h])
theorem ev_oFdiv (h : 0 < m ∧ m < 1073741824) : Ev (oFdiv (.int k) (.int m) S) Q = Q (.int (k / m)) S := Ev.of (by
  show (match (if _ then some (D.int (k / m)) else none) with | some d => Res.ok d S | none => .stuck) = _
  rw [if_pos h])
theorem ev_oPow (h : 0 ≤ m ∧ m ≤ 1000000 ∧ k.natAbs < 2 ^ 64) : Ev (oPow (.int k) (.int m) S) Q = Q (.int (k ^ m.toNat)) S := Ev.of (by
  show (match (if _ then some (D.int (k ^ m.toNat)) else none) with | some d => Res.ok d S | none => .stuck) = _
  rw [if_pos h])
@[simp ↓] theorem ev_pow1018 : Ev (oPow (.int 10) (.int 18) S) Q = Q (.int 1000000000000000000) S := ev_oPow (by decide)
@[simp ↓] theorem ev_oLt : Ev (oLt (.int k) (.int m) S) Q = Q (.bl (decide (k < m))) S := Ev.of rfl
@[simp ↓] theorem ev_oLe : Ev (oLe (.int k) (.int m) S) Q = Q (.bl (decide (k ≤ m))) S := Ev.of rfl
@[simp ↓] theorem ev_oGt : Ev (oGt (.int k) (.int m) S) Q = Q (.bl (decide (m < k))) S := Ev.of rfl
@[simp ↓] theorem ev_oGe : Ev (oGe (.int k) (.int m) S) Q = Q (.bl (decide (m ≤ k))) S := Ev.of rfl
theorem ev_oEq (h : okD a = true) (h' : okD b = true) : Ev (oEq a b S) Q = Q (.bl (eqD a b)) S := Ev.of (by unfold oEq; rw [if_pos ⟨h, h'⟩])
theorem ev_oNe (h : okD a = true) (h' : okD b = true) : Ev (oNe a b S) Q = Q (.bl (!eqD a b)) S := Ev.of (by unfold oNe; rw [if_pos ⟨h, h'⟩])
@[simp ↓] theorem ev_oIs : Ev (oIs a .non S) Q = Q (.bl (isNon a)) S := Ev.of rfl
@[simp ↓] theorem ev_oIsNot : Ev (oIsNot a .non S) Q = Q (.bl (!isNon a)) S := Ev.of rfl
@[simp] theorem ev_isNon : isNon .non = true := rfl
@[simp] theorem ev_isNonI : isNon (.int k) = false := rfl
theorem ev_ixL {d : D} (h : atI ds k = some d) : Ev (oIx (.lst ds) (.int k) S) Q = Q d S := Ev.of (by
  show (match atI ds k with | some d => Res.ok d S | none => .stuck) = _
  rw [h])
theorem ev_ixT {d : D} (h : atI ds k = some d) : Ev (oIx (.tup ds) (.int k) S) Q = Q d S := Ev.of (by
  show (match atI ds k with | some d => Res.ok d S | none => .stuck) = _
  rw [h])
@[simp ↓] theorem mu3_0 {c : D} : Ev (oIx (.mu 0) (.int 0) [[a, b, c]]) Q = Q a [[a, b, c]] := Ev.of rfl
@[simp ↓] theorem mu3_1 {c : D} : Ev (oIx (.mu 0) (.int 1) [[a, b, c]]) Q = Q b [[a, b, c]] := Ev.of rfl
@[simp ↓] theorem mu3_2 {c : D} : Ev (oIx (.mu 0) (.int 2) [[a, b, c]]) Q = Q c [[a, b, c]] := Ev.of rfl
@[simp ↓] theorem ev_pair0 : Ev (oIx (.tup [a, b]) (.int 0) S) Q = Q a S := Ev.of rfl
@[simp ↓] theorem ev_pair1 : Ev (oIx (.tup [a, b]) (.int 1) S) Q = Q b S := Ev.of rfl
@[simp ↓] theorem ev_eNegI : Ev (eNeg (eC (.int k)) env S) Q = Q (.int (-k)) S := Ev.of rfl
@[simp ↓] theorem ev_eTst : Ev (eTst f env S) QT = Ev (f env S) fun x S => match x with | .bl b => QT b S | _ => False := by
  show Ev (Res.bind _ _) QT = _
  rw [Ev.bind]
  congr 1
  funext x S
  cases x <;> first | exact Ev.of rfl | exact ev_no
def withTru (S : Sto) (d : D) (k : Bool → Prop) : Prop := match truD S d with | some b => k b | none => False
@[simp ↓] theorem wt_b {b : Bool} {k : Bool → Prop} : withTru S (.bl b) k = k b := rfl
@[simp ↓] theorem wt_i {n : Int} {k : Bool → Prop} : withTru S (.int n) k = k (n != 0) := rfl
@[simp ↓] theorem wt_l {k : Bool → Prop} : withTru S (.lst ds) k = k (!ds.isEmpty) := rfl
@[simp ↓] theorem wt_t {k : Bool → Prop} : withTru S (.tup ds) k = k (!ds.isEmpty) := rfl
@[simp ↓] theorem wt_n {k : Bool → Prop} : withTru S .non k = k false := rfl
@[simp ↓] theorem ev_eTru : Ev (eTru f env S) QT = Ev (f env S) fun x S => withTru S x fun b => QT b S := by
  show Ev (Res.bind _ _) QT = _
  rw [Ev.bind]
  congr 1
  funext x S
  have key : ∀ z : Option Bool, Ev (match z with | some b => .ok b S | none => .stuck : Res Bool) QT = match z with | some b => QT b S | none => False := fun z => by
    cases z with
    | none => exact ev_no
    | some b => exact Ev.of rfl
  exact key (truD S x)
@[simp ↓] theorem ev_eAndT : Ev (eAndT p q env S) QT = Ev (p env S) fun b S => if b = true then Ev (q env S) QT else QT false S := by
  show Ev (Res.bind _ _) QT = _
  simp only [Ev.bind, Ev.noex, ev_ite, ev_ok]
@[simp ↓] theorem ev_eOrT : Ev (eOrT p q env S) QT = Ev (p env S) fun b S => if b = true then QT true S else Ev (q env S) QT := by
  show Ev (Res.bind _ _) QT = _
  simp only [Ev.bind, Ev.noex, ev_ite, ev_ok]
@[simp ↓] theorem ev_eNotT : Ev (eNotT p env S) QT = Ev (p env S) fun b S => QT (!b) S := by
  show Ev (Res.bind _ _) QT = _
  simp only [Ev.bind, Ev.noex, ev_ok]
theorem ev_bl {α : Type} {x : D} {r : Bool → Res α} {Q : α → Sto → Prop} : Ev (match x with | .bl b => r b | _ => .stuck) Q = match x with | .bl b => Ev (r b) Q | _ => False := by
  cases x <;> first | rfl | exact ev_no
@[simp ↓] theorem ev_eAnd : Ev (eAnd f g env S) Q = Ev (f env S) fun x S => match x with | .bl b => if b = true then Ev (g env S) Q else Q (.bl false) S | _ => False := by
  show Ev (Res.bind _ _) Q = _
  rw [Ev.bind]
  congr 1
  funext x S
  cases x with
  | bl b => cases b <;> first | rfl | exact Ev.of rfl
  | _ => exact ev_no
@[simp ↓] theorem ev_eOr : Ev (eOr f g env S) Q = Ev (f env S) fun x S => match x with | .bl b => if b = true then Q (.bl true) S else Ev (g env S) Q | _ => False := by
  show Ev (Res.bind _ _) Q = _
  rw [Ev.bind]
  congr 1
  funext x S
  cases x with
  | bl b => cases b <;> first | rfl | exact Ev.of rfl
  | _ => exact ev_no
@[simp ↓] theorem ev_eNot : Ev (eNot f env S) Q = Ev (f env S) fun x S => match x with | .bl b => Q (.bl (!b)) S | _ => False := by
  show Ev (Res.bind _ _) Q = _
  rw [Ev.bind]
  congr 1
  funext x S
  cases x <;> first | exact Ev.of rfl | exact ev_no
@[simp ↓] theorem ev_eIf : Ev (eIf p f g env S) Q = Ev (p env S) fun b S => if b = true then Ev (f env S) Q else Ev (g env S) Q := by
  show Ev (Res.bind _ _) Q = _
  simp only [Ev.bind, Ev.noex, ev_ite]
@[simp ↓] theorem ev_eChain : Ev (eChain o o' f g h env S) Q = Ev (f env S) fun x S => Ev (g env S) fun y S => Ev (o x y S) fun k S => match k with | .bl b => if b = true then Ev (h env S) fun z S => Ev (o' y z S) Q else Q (.bl false) S | _ => False := by
  show Ev (Res.bind _ _) Q = _
  simp only [Ev.bind, Ev.noex]
  congr 1
  funext x S
  congr 1
  funext y S
  congr 1
  funext k S
  cases k with
  | bl b => cases b <;> first | exact (Ev.bind.trans (by simp only [Ev.noex]; rfl)) | exact Ev.of rfl
  | _ => exact ev_no
@[simp ↓] theorem ev_eNil : Ev (eNil env S) QL = QL [] S := Ev.of rfl
@[simp ↓] theorem ev_eCons : Ev (eCons f l env S) QL = Ev (f env S) fun x S => Ev (l env S) fun xs S => QL (x :: xs) S := by
  show Ev (Res.bind _ _) QL = _
  simp only [Ev.bind, Ev.noex, ev_ok]
theorem ev_if1000 {α : Type} {n : Nat} {r : Res α} {Q : α → Sto → Prop} : Ev (if n ≤ 1000 then r else .stuck) Q = (n ≤ 1000 ∧ Ev r Q) := by
  split
  · rename_i h; exact propext ⟨fun q => ⟨h, q⟩, fun q => q.2⟩
  · rename_i h; exact propext ⟨fun ⟨_, _, e, _⟩ => (by cases e), fun q => absurd q.1 h⟩
theorem ev_stk {α : Type} {c : Prop} [Decidable c] {r : Res α} {Q : α → Sto → Prop} : Ev (if c then r else .stuck) Q = (c ∧ Ev r Q) := by
  split
  · rename_i h; exact propext ⟨fun q => ⟨h, q⟩, fun q => q.2⟩
  · rename_i h; exact propext ⟨fun ⟨_, _, e, _⟩ => (by cases e), fun q => absurd q.1 h⟩
@[simp ↓] theorem ev_eTup : Ev (eTup l env S) Q = Ev (l env S) fun xs S => xs.length ≤ 1000 ∧ Q (.tup xs) S := by
  show Ev (Res.bind _ _) Q = _
  simp only [Ev.bind, Ev.noex, ev_stk, ev_ok]
@[simp ↓] theorem ev_eDsp : Ev (eDsp l env S) QL = Ev (l env S) fun xs S => xs.length ≤ 1000 ∧ QL xs S := by
  show Ev (Res.bind _ _) QL = _
  simp only [Ev.bind, Ev.noex, ev_stk, ev_ok]
@[simp ↓] theorem ev_eLst : Ev (eLst l env S) Q = Ev (l env S) fun ds S => Q (.lst ds) S := by
  show Ev (Res.bind _ _) Q = _
  simp only [Ev.bind, Ev.noex, ev_ok]
@[simp ↓] theorem ev_eMu : Ev (eMu l env S) Q = Ev (l env S) fun ds S => Q (.mu S.length) (S ++ [ds]) := by
  show Ev (Res.bind _ _) Q = _
  simp only [Ev.bind, Ev.noex, ev_ok]
@[simp ↓] theorem ev_eBlt : Ev (eBlt op l env S) Q = Ev (l env S) fun ds S => Ev (op ds S) Q := Ev.bind.trans (by simp only [Ev.noex])
@[simp ↓] theorem ev_eBltN : Ev (eBltN opn l env S) QL = Ev (l env S) fun ds S => Ev (opn ds S) QL := Ev.bind.trans (by simp only [Ev.noex])
@[simp ↓] theorem ev_eCall0 {φ : List D → Sto → Res D} : Ev (eCall0 φ l env S) Q = Ev (l env S) fun ds S => Ev (φ ds S) Q := Ev.bind.trans (by simp only [Ev.noex])
@[simp ↓] theorem ev_eCall {φ : List D → Sto → Res D} : Ev (eCall φ l env S) Q = Ev (l env S) fun ds S => Ev (φ ds S) Q := Ev.bind
@[simp ↓] theorem ev_lenL : Ev (bLen [.lst ds] S) Q = Q (.int ds.length) S := Ev.of rfl
@[simp ↓ high] theorem ev_lenLM {γ : Type} {e : γ → D} {xs : List γ} : Ev (bLen [.lst (xs.map e)] S) Q = Q (.int xs.length) S := Ev.of (by show Res.ok (D.int (xs.map e).length) S = _; rw [List.length_map])
@[simp ↓ high] theorem ev_lenTM {γ : Type} {e : γ → D} {xs : List γ} : Ev (bLen [.tup (xs.map e)] S) Q = Q (.int xs.length) S := Ev.of (by show Res.ok (D.int (xs.map e).length) S = _; rw [List.length_map])
@[simp ↓] theorem ev_lenT : Ev (bLen [.tup ds] S) Q = Q (.int ds.length) S := Ev.of rfl
@[simp ↓] theorem ev_intI : Ev (bInt [.int k] S) Q = Q (.int k) S := Ev.of rfl
@[simp ↓] theorem ev_intB {b : Bool} : Ev (bInt [.bl b] S) Q = Q (.int (if b then 1 else 0)) S := Ev.of rfl
@[simp ↓] theorem ev_abs : Ev (bAbs [.int k] S) Q = Q (.int (if k < 0 then -k else k)) S := Ev.of rfl
@[simp ↓] theorem ev_max2 : Ev (bMax2 [.int k, .int m] S) Q = Q (.int (max k m)) S := Ev.of (by
  show Res.ok (D.int (if m > k then m else k)) S = _
  congr 2
  split <;> omega)
@[simp ↓] theorem ev_min2 : Ev (bMin2 [.int k, .int m] S) Q = Q (.int (min k m)) S := Ev.of (by
  show Res.ok (D.int (if m < k then m else k)) S = _
  congr 2
  split <;> omega)
@[simp ↓] theorem ev_tupL : Ev (bTuple [.lst ds] S) Q = Q (.tup ds) S := Ev.of rfl
@[simp ↓] theorem ev_tupT : Ev (bTuple [.tup ds] S) Q = Q (.tup ds) S := Ev.of rfl
@[simp ↓] theorem ev_listL : Ev (bList [.lst ds] S) QL = QL ds S := Ev.of rfl
@[simp ↓] theorem ev_listT : Ev (bList [.tup ds] S) QL = QL ds S := Ev.of rfl
theorem ev_any (bs : List Bool) : Ev (bAny [.lst (bs.map .bl)] S) Q = Q (.bl (bs.any id)) S := Ev.of (by
  show (match allBl (bs.map .bl) with | some bs => Res.ok (D.bl (bs.any id)) S | none => .stuck) = _
  rw [allBl_of])
theorem ev_all (bs : List Bool) : Ev (bAll [.lst (bs.map .bl)] S) Q = Q (.bl (bs.all id)) S := Ev.of (by
  show (match allBl (bs.map .bl) with | some bs => Res.ok (D.bl (bs.all id)) S | none => .stuck) = _
  rw [allBl_of])
theorem ev_maxL (n : Int) (ns : List Int) : Ev (bMax [.lst ((n :: ns).map .int)] S) Q = Q (.int (ns.foldl max n)) S := Ev.of (by
  show (match allInt ((n :: ns).map .int) with | some (n :: ns) => Res.ok (D.int (ns.foldl max n)) S | _ => .stuck) = _
  rw [allInt_of])
theorem ev_minL (n : Int) (ns : List Int) : Ev (bMin [.lst ((n :: ns).map .int)] S) Q = Q (.int (ns.foldl min n)) S := Ev.of (by
  show (match allInt ((n :: ns).map .int) with | some (n :: ns) => Res.ok (D.int (ns.foldl min n)) S | _ => .stuck) = _
  rw [allInt_of])
@[simp ↓] theorem ev_maxP : Ev (bMax [.tup [.int k, .int m]] S) Q = Q (.int (max k m)) S := Ev.of rfl
@[simp ↓] theorem ev_minP : Ev (bMin [.tup [.int k, .int m]] S) Q = Q (.int (min k m)) S := Ev.of rfl
theorem ev_opt {α β : Type} {x : Option β} {r : β → Res α} {Q : α → Sto → Prop} : Ev (match x with | some b => r b | none => .stuck) Q = match x with | some b => Ev (r b) Q | none => False := by
  cases x with
  | some b => rfl
  | none => exact ev_no
def withSeq (d : D) (k : List D → Prop) : Prop := match seqD d with | some ds => k ds | none => False
@[simp ↓] theorem wq_l {k : List D → Prop} : withSeq (.lst ds) k = k ds := rfl
@[simp ↓] theorem wq_t {k : List D → Prop} : withSeq (.tup ds) k = k ds := rfl
@[simp ↓] theorem ev_iD : Ev (iD f env S) QL = Ev (f env S) fun d S => withSeq d fun ds => QL ds S := by
  show Ev (Res.bind _ _) QL = _
  rw [Ev.bind]
  congr 1
  funext d S
  unfold withSeq
  generalize seqD d = x
  cases x <;> first | exact ev_no | exact Ev.of rfl
@[simp ↓] theorem ev_iRg1 : Ev (iRg1 f env S) QL = Ev (f env S) fun d S => match d with | .int j => (-1000000 ≤ j ∧ j ≤ 1000000) ∧ QL (rangeD 0 j.toNat) S | _ => False := by
  show Ev (Res.bind _ _) QL = _
  rw [Ev.bind]
  congr 1
  funext d S
  cases d with
  | int j => show Ev (if _ then _ else _) QL = _; rw [ev_stk, ev_ok]
  | _ => exact ev_no
@[simp ↓] theorem ev_iRg2 : Ev (iRg2 f g env S) QL = Ev (f env S) fun d S => Ev (g env S) fun e S => match d, e with
  | .int i, .int j => ((-1000000 ≤ i ∧ i ≤ 1000000) ∧ -1000000 ≤ j ∧ j ≤ 1000000) ∧ QL (rangeD i (j - i).toNat) S
  | _, _ => False := by
  show Ev (Res.bind _ _) QL = _
  simp only [Ev.bind, Ev.noex]
  congr 1
  funext d S
  congr 1
  funext e S
  cases d with
  | int i => cases e with
    | int j => show Ev (if _ then _ else _) QL = _; rw [ev_stk, ev_ok]
    | _ => exact ev_no
  | _ => exact ev_no
@[simp ↓] theorem ev_iEn : Ev (iEn f env S) QL = Ev (f env S) fun d S => withSeq d fun ds => QL (enD ds) S := by
  show Ev (Res.bind _ _) QL = _
  rw [Ev.bind]
  congr 1
  funext d S
  unfold withSeq
  generalize seqD d = x
  cases x <;> first | exact ev_no | exact Ev.of rfl
def withTwo (d e : D) (k : List D → List D → Prop) : Prop := match two d e with | some p => k p.1 p.2 | none => False
@[simp ↓] theorem w2_l {k : List D → List D → Prop} : withTwo (.lst ds) (.lst es) k = k ds es := rfl
@[simp ↓] theorem w2_t {k : List D → List D → Prop} : withTwo (.tup ds) (.tup es) k = k ds es := rfl
@[simp ↓] theorem ev_iZi : Ev (iZi f g env S) QL = Ev (f env S) fun d S => Ev (g env S) fun e S => withTwo d e fun xs ys => QL (zipD xs ys) S := by
  show Ev (Res.bind _ _) QL = _
  simp only [Ev.bind, Ev.noex]
  congr 1
  funext d S
  congr 1
  funext e S
  unfold withTwo
  generalize two d e = x
  cases x <;> first | exact ev_no | exact Ev.of rfl
@[simp ↓] theorem ev_eListEn : Ev (eListEn f env S) QL = Ev (f env S) fun d S => match d with | .lst ds => QL (enD ds) S | _ => False := by
  show Ev (Res.bind _ _) QL = _
  rw [Ev.bind]
  congr 1
  funext d S
  cases d <;> first | exact Ev.of rfl | exact ev_no
@[simp ↓] theorem ev_eListZi : Ev (eListZi f g env S) QL = Ev (f env S) fun d S => Ev (g env S) fun e S => match d, e with | .lst xs, .lst ys => QL (zipD xs ys) S | _, _ => False := by
  show Ev (Res.bind _ _) QL = _
  simp only [Ev.bind, Ev.noex]
  congr 1
  funext d S
  congr 1
  funext e S
  cases d <;> cases e <;> first | exact Ev.of rfl | exact ev_no
@[simp ↓] theorem ev_eComp {it : EL} {g : GE} {vs : List Nat} : Ev (eComp it g p f vs env S) QL = Ev (it env S) fun ds S => withWipe env vs fun env => Ev (compGo g p f env ds S) QL := Ev.bind
@[simp ↓] theorem ev_eComp2 {it it1 : EL} {g g1 : GE} {p1 : ET} {vs vs1 : List Nat} : Ev (eComp2 it g p it1 g1 p1 f vs vs1 env S) QL = Ev (it env S) fun ds S => withWipe env vs fun env => Ev (compGo2 g p it1 g1 p1 f vs1 env ds S) fun ys S => ys.length ≤ 1000000 ∧ QL ys S := by
  show Ev (Res.bind _ _) QL = _
  simp only [Ev.bind, Ev.noex, ev_stk, ev_ok]
  rfl
@[simp ↓] theorem ev_eYes : Ev (eYes env S) QT = QT true S := Ev.of rfl
@[simp ↓] theorem ev_eCatN : Ev (eCatN l l' env S) QL = Ev (l env S) fun xs S => Ev (l' env S) fun ys S => xs.length + ys.length ≤ 1000000 ∧ QL (xs ++ ys) S := by
  show Ev (Res.bind _ _) QL = _
  simp only [Ev.bind, Ev.noex, ev_stk, ev_ok]
@[simp ↓] theorem ev_eSl {u v : Option Int} : Ev (eSl f (fun _ S => .ok u S) (fun _ S => .ok v S) env S) Q = Ev (f env S) fun d S => match d with
  | .lst xs => Q (.lst (cutD xs u v)) S | .tup xs => Q (.tup (cutD xs u v)) S | _ => False := by
  show Ev (Res.bind _ _) Q = _
  rw [Ev.bind]
  congr 1
  funext d S
  cases d <;> first | exact Ev.of rfl | exact ev_no
theorem oSo_int : oSo (eC (.int k)) = fun _ S => .ok (some k) S := rfl
theorem oNo_eq : oNo = fun _ S => .ok none S := rfl
def withTy (c : String) (d : D) (k : Bool → Prop) : Prop := match isTy c d with | some b => k b | none => False
@[simp ↓] theorem wy_iL {k : Bool → Prop} : withTy "list" (.lst ds) k = k true := rfl
@[simp ↓] theorem wy_tL {k : Bool → Prop} : withTy "tuple" (.lst ds) k = k false := rfl
@[simp ↓] theorem wy_iT {k : Bool → Prop} : withTy "list" (.tup ds) k = k false := rfl
@[simp ↓] theorem wy_tT {k : Bool → Prop} : withTy "tuple" (.tup ds) k = k true := rfl
@[simp ↓] theorem wy_ii {n : Int} {k : Bool → Prop} : withTy "int" (.int n) k = k true := rfl
@[simp ↓] theorem wy_bi {n : Int} {k : Bool → Prop} : withTy "bool" (.int n) k = k false := rfl
@[simp ↓] theorem wy_ib {b : Bool} {k : Bool → Prop} : withTy "int" (.bl b) k = k true := rfl
@[simp ↓] theorem wy_bb {b : Bool} {k : Bool → Prop} : withTy "bool" (.bl b) k = k true := rfl
@[simp ↓] theorem wy_in {k : Bool → Prop} : withTy "int" .non k = k false := rfl
@[simp ↓] theorem wy_bn {k : Bool → Prop} : withTy "bool" .non k = k false := rfl
@[simp ↓] theorem wy_is {x : Str} {k : Bool → Prop} : withTy "int" (.str x) k = k false := rfl
@[simp ↓] theorem ev_eIsi {c : String} : Ev (eIsi c f env S) Q = Ev (f env S) fun d S => withTy c d fun b => Q (.bl b) S := by
  show Ev (Res.bind _ _) Q = _
  rw [Ev.bind]
  congr 1
  funext d S
  unfold withTy
  generalize isTy c d = x
  cases x <;> first | exact ev_no | exact Ev.of rfl
@[simp ↓] theorem ev_eIsi2 {c c' : String} : Ev (eIsi2 c c' f env S) Q = Ev (f env S) fun d S => withTy c d fun b => withTy c' d fun b' => Q (.bl (b || b')) S := by
  show Ev (Res.bind _ _) Q = _
  rw [Ev.bind]
  congr 1
  funext d S
  unfold withTy
  cases isTy c d <;> cases isTy c' d <;> first | exact Ev.of rfl | exact ev_no
@[simp ↓] theorem ev_minDef {gg : Int → List Int → Int} : Ev (eMinDef gg f g env S) Q = Ev (f env S) fun d S => Ev (g env S) fun z S => match d with
  | .lst xs => (match allInt xs with | some [] => Q z S | some (n :: ns) => Q (.int (gg n ns)) S | none => False)
  | _ => False := by
  show Ev (Res.bind _ _) Q = _
  simp only [Ev.bind, Ev.noex]
  congr 1
  funext d S
  congr 1
  funext z S
  cases d with
  | lst xs =>
    show Ev (match allInt xs with | some [] => Res.ok z S | some (n :: ns) => .ok (.int (gg n ns)) S | none => .stuck) Q = match allInt xs with | some [] => Q z S | some (n :: ns) => Q (.int (gg n ns)) S | none => False
    cases allInt xs with
    | none => exact ev_no
    | some ns => cases ns <;> exact Ev.of rfl
  | _ => exact ev_no
end
/-- statements: what follows, what is returned, break, continue -/
def EvS (r : Res Out) (nx : Env → Sto → Prop) (rt : D → Sto → Prop) (bk ct : Env → Sto → Prop) : Prop := Ev r fun o S => match o with | .nx e => nx e S | .rt d => rt d S | .bk e => bk e S | .ct e => ct e S | .rs _ _ => False
section
variable {env : Env} {S : Sto} {f g h : EE} {l : EL} {p : ET} {s t : SS} {i : Nat} {d : D} {nx bk ct : Env → Sto → Prop} {rt : D → Sto → Prop}
theorem evs_bind {α : Type} {r : Res α} {k : α → Sto → Res Out} : EvS (r.bind k) nx rt bk ct = Ev r fun a S => EvS (k a S) nx rt bk ct := Ev.bind
theorem evs_bindS {α : Type} {env : Env} {r : Res α} {k : α → Sto → Res Out} : EvS (r.bindS env k) nx rt bk ct = Ev r fun a S => EvS (k a S) nx rt bk ct := by
  cases r with
  | ok a S =>
    rw [ev_ok]
    rfl
  | ex x S => exact propext ⟨fun ⟨_, _, e, h⟩ => (by cases e; exact h.elim), fun ⟨_, _, e, _⟩ => (by cases e)⟩
  | stuck => exact propext ⟨fun ⟨_, _, e, _⟩ => (by cases e), fun ⟨_, _, e, _⟩ => (by cases e)⟩
theorem evs_no : EvS .stuck nx rt bk ct = False := ev_no
@[simp ↓] theorem evs_nx : EvS (.ok (.nx env) S) nx rt bk ct = nx env S := Ev.of rfl
@[simp ↓] theorem evs_rt : EvS (.ok (.rt d) S) nx rt bk ct = rt d S := Ev.of rfl
@[simp ↓] theorem evs_bk : EvS (.ok (.bk env) S) nx rt bk ct = bk env S := Ev.of rfl
@[simp ↓] theorem evs_ct : EvS (.ok (.ct env) S) nx rt bk ct = ct env S := Ev.of rfl
@[simp ↓] theorem es_nil : EvS (sNil env S) nx rt bk ct = nx env S := Ev.of rfl
@[simp ↓] theorem es_seq : EvS (sSeq s t env S) nx rt bk ct = EvS (s env S) (fun env S => EvS (t env S) nx rt bk ct) rt bk ct := by
  show EvS (Res.bind _ _) nx rt bk ct = _
  rw [evs_bind]
  unfold EvS
  congr 1
  funext x S
  cases x <;> first | rfl | exact Ev.of rfl
@[simp ↓] theorem es_set : EvS (sSet i f env S) nx rt bk ct = Ev (f env S) fun d S => withSet env i (some (.sh d)) fun env => nx env S := by
  show EvS (Res.bindS _ _ _) nx rt bk ct = _
  simp only [evs_bindS, evs_nx]
  rfl
@[simp ↓] theorem es_new : EvS (sNew i l env S) nx rt bk ct = Ev (l env S) fun ds S => withSet env i (some (.own ds)) fun env => nx env S := by
  show EvS (Res.bindS _ _ _) nx rt bk ct = _
  simp only [evs_bindS, evs_nx]
  rfl
@[simp ↓] theorem es_ret : EvS (sRet f env S) nx rt bk ct = Ev (f env S) rt := by
  show EvS (Res.bindS _ _ _) nx rt bk ct = _
  simp only [evs_bindS, evs_rt]
@[simp ↓] theorem es_retN : EvS (sRetN env S) nx rt bk ct = rt .non S := Ev.of rfl
@[simp ↓] theorem es_if : EvS (sIf p s t env S) nx rt bk ct = Ev (p env S) fun b S => if b = true then EvS (s env S) nx rt bk ct else EvS (t env S) nx rt bk ct := by
  show EvS (Res.bindS _ _ _) nx rt bk ct = _
  rw [evs_bindS]
  congr 1
  funext b S
  cases b <;> rfl
@[simp ↓] theorem es_drop : EvS (sDrop f env S) nx rt bk ct = Ev (f env S) fun _ S => nx env S := by
  show EvS (Res.bindS _ _ _) nx rt bk ct = _
  simp only [evs_bindS, evs_nx]
@[simp ↓] theorem es_asgT {g : GE} : EvS (sAsgT g f env S) nx rt bk ct = Ev (f env S) fun d S => withG g d env fun env => nx env S := by
  show EvS (Res.bindS _ _ _) nx rt bk ct = _
  rw [evs_bindS]
  congr 1
  funext d S
  unfold withG
  cases g d env with
  | some e => exact Ev.of rfl
  | none => exact ev_no
@[simp ↓] theorem es_app : EvS (sApp i f env S) nx rt bk ct = withOwn env i fun ds => Ev (f env S) fun d S => ds.length < 1000000 ∧ withSet env i (some (.own (ds ++ [d]))) fun env => nx env S := by
  have key : ∀ z : Option (Option Slot), EvS (match z with | some (some (.own ds)) => (f env S).bindS env fun d S => if ds.length < 1000000 then .ok (.nx (env.set i (some (.own (ds ++ [d]))))) S else .stuck | _ => .stuck) nx rt bk ct = match z with | some (some (.own ds)) => Ev (f env S) fun d S => ds.length < 1000000 ∧ nx (env.set i (some (.own (ds ++ [d])))) S | _ => False := fun z => by
    cases z with
    | none => exact evs_no
    | some y =>
      cases y with
      | none => exact evs_no
      | some w =>
        cases w with
        | sh _ => exact evs_no
        | fn _ => exact evs_no
        | own ds =>
          show EvS (Res.bindS _ _ _) nx rt bk ct = _
          rw [evs_bindS]
          congr 1
          funext d S
          show Ev (if _ then _ else _) _ = _
          rw [ev_stk]
          congr 1
          exact evs_nx
  exact key env[i]?
@[simp ↓] theorem es_pop : EvS (sPop i env S) nx rt bk ct = withOwn env i fun ds => ds ≠ [] ∧ withSet env i (some (.own ds.dropLast)) fun env => nx env S := by
  have key : ∀ z : Option (Option Slot), EvS (match z with | some (some (.own ds)) => if ds = [] then .stuck else .ok (.nx (env.set i (some (.own ds.dropLast)))) S | _ => .stuck) nx rt bk ct = match z with | some (some (.own ds)) => ds ≠ [] ∧ nx (env.set i (some (.own ds.dropLast))) S | _ => False := fun z => by
    cases z with
    | none => exact evs_no
    | some y =>
      cases y with
      | none => exact evs_no
      | some w =>
        cases w with
        | sh _ => exact evs_no
        | fn _ => exact evs_no
        | own ds =>
          show EvS (if ds = [] then .stuck else .ok (.nx (env.set i (some (.own ds.dropLast)))) S) nx rt bk ct = (ds ≠ [] ∧ nx (env.set i (some (.own ds.dropLast))) S)
          by_cases hd : ds = []
          · rw [if_pos hd, evs_no]; exact propext ⟨False.elim, fun q => absurd hd q.1⟩
          · rw [if_neg hd, evs_nx]; exact propext ⟨fun q => ⟨hd, q⟩, fun q => q.2⟩
  exact key env[i]?
@[simp ↓] theorem es_frz : EvS (sFrz i s env S) nx rt bk ct = withFrz env i fun env => EvS (s env S) nx rt bk ct := by
  have key : ∀ z : Option (Option Slot), EvS (match z with | some (some (.own ds)) => s (env.set i (some (.sh (.lst ds)))) S | _ => s env S) nx rt bk ct = match z with | some (some (.own ds)) => EvS (s (env.set i (some (.sh (.lst ds)))) S) nx rt bk ct | _ => EvS (s env S) nx rt bk ct := fun z => by
    cases z with
    | none => rfl
    | some y =>
      cases y with
      | none => rfl
      | some w => cases w <;> rfl
  exact key env[i]?
@[simp ↓] theorem es_store1 : EvS (sStore f (eV 0) (eC (.int 1)) (some (.sh (.mu 0)) :: env) S) nx rt bk ct = Ev (f (some (.sh (.mu 0)) :: env) S) fun d S => match S with | [[a, _, c]] => nx (some (.sh (.mu 0)) :: env) [[a, d, c]] | S => EvS (sStore (eC d) (eV 0) (eC (.int 1)) (some (.sh (.mu 0)) :: env) S) nx rt bk ct := by
  show EvS (Res.bindS _ _ _) nx rt bk ct = _
  rw [evs_bindS]
  congr 1
  funext d S
  split
  · exact Ev.of rfl
  · rfl
@[simp ↓] theorem es_store2 : EvS (sStore f (eV 0) (eC (.int 2)) (some (.sh (.mu 0)) :: env) S) nx rt bk ct = Ev (f (some (.sh (.mu 0)) :: env) S) fun d S => match S with | [[a, b, _]] => nx (some (.sh (.mu 0)) :: env) [[a, b, d]] | S => EvS (sStore (eC d) (eV 0) (eC (.int 2)) (some (.sh (.mu 0)) :: env) S) nx rt bk ct := by
  show EvS (Res.bindS _ _ _) nx rt bk ct = _
  rw [evs_bindS]
  congr 1
  funext d S
  split
  · exact Ev.of rfl
  · rfl
@[simp ↓] theorem es_for {it : EL} {g : GE} {b : SS} : EvS (sFor it g b env S) nx rt bk ct = Ev (it env S) fun ds S => EvS (forGo g b ds env S) nx rt bk ct := evs_bindS
@[simp ↓] theorem es_stuck : EvS (sStuck env S) nx rt bk ct = False := ev_no
theorem ev_runD {N : Nat} {ds : List D} {Q : D → Sto → Prop} : Ev (runD N s ds S) Q = EvS (s (startE N ds) S) (fun _ S => Q .non S) Q (fun _ _ => False) (fun _ _ => False) := by
  unfold runD EvS
  cases s (startE N ds) S with
  | stuck => exact propext ⟨fun ⟨_, _, e, _⟩ => (by cases e), fun ⟨_, _, e, _⟩ => (by cases e)⟩
  | ex x S => exact propext ⟨fun ⟨_, _, e, _⟩ => (by cases e), fun ⟨_, _, e, _⟩ => (by cases e)⟩
  | ok o S' =>
    rw [ev_ok]
    cases o with
    | rs x e => exact propext ⟨fun ⟨_, _, e, _⟩ => (by cases e), False.elim⟩
    | nx e => exact Ev.of rfl
    | rt e => exact Ev.of rfl
    | bk e => exact ev_no
    | ct e => exact ev_no
theorem EvS.imp {r : Res Out} {nx' bk' ct' : Env → Sto → Prop} {rt' : D → Sto → Prop} (h : EvS r nx rt bk ct) (i1 : ∀ e S, nx e S → nx' e S) (i2 : ∀ d S, rt d S → rt' d S) (i3 : ∀ e S, bk e S → bk' e S) (i4 : ∀ e S, ct e S → ct' e S) : EvS r nx' rt' bk' ct' := by
  refine Ev.imp h fun o S q => ?_
  cases o with
  | nx e => exact i1 e S q
  | rt e => exact i2 e S q
  | bk e => exact i3 e S q
  | ct e => exact i4 e S q
  | rs x e => exact q.elim
theorem withG.imp {g : GE} {k k' : Env → Prop} (h : withG g d env k) (i : ∀ e, k e → k' e) : withG g d env k' := by
  unfold withG at h ⊢
  split at h
  · exact i _ h
  · exact h.elim
end

/-! ### loops -/
section
variable {S : Sto}
theorem ev_forNil {g : GE} {b : SS} {env : Env} {nx bk ct : Env → Sto → Prop} {rt : D → Sto → Prop} : EvS (forGo g b [] env S) nx rt bk ct = nx env S := Ev.of rfl
theorem ev_forCons {g : GE} {b : SS} {d : D} {ds : List D} {env : Env} {nx bk ct : Env → Sto → Prop} {rt : D → Sto → Prop} : EvS (forGo g b (d :: ds) env S) nx rt bk ct =
    withG g d env fun env1 => EvS (b env1 S) (fun env2 S => EvS (forGo g b ds env2 S) nx rt bk ct) rt nx (fun env2 S => EvS (forGo g b ds env2 S) nx rt bk ct) := by
  show EvS (match g d env with | none => Res.stuck | some env1 => (b env1 S).bind fun o S => match o with
        | .nx env2 => forGo g b ds env2 S | .ct env2 => forGo g b ds env2 S | .bk env2 => .ok (.nx env2) S | .rt d => .ok (.rt d) S | .rs x env2 => .ok (.rs x env2) S) nx rt bk ct = _
  unfold withG
  cases g d env with
  | none => exact evs_no
  | some env1 =>
    show EvS (Res.bind _ _) nx rt bk ct = EvS (b env1 S) _ _ _ _
    rw [evs_bind]
    unfold EvS
    congr 1
    funext o S
    cases o <;> first | rfl | exact Ev.of rfl
theorem ev_compNil {g : GE} {p : ET} {f : EE} {env : Env} {QL : List D → Sto → Prop} : Ev (compGo g p f env [] S) QL = QL [] S := Ev.of rfl
theorem ev_compConsG {g : GE} {p : ET} {f : EE} {env : Env} {d : D} {ds : List D} {QL : List D → Sto → Prop} : Ev (compGo g p f env (d :: ds) S) QL = withG g d env fun e => Ev (p e S) fun k S => if k = true then Ev (f e S) fun y S => Ev (compGo g p f env ds S) fun ys S => QL (y :: ys) S else Ev (compGo g p f env ds S) QL := by
  show Ev (match g d env with | none => Res.stuck | some e => (p e S).noex.bind fun k S => if k = true then (f e S).noex.bind fun y S => (compGo g p f env ds S).bind fun ys S => .ok (y :: ys) S else compGo g p f env ds S) QL = _
  unfold withG
  cases g d env with
  | none => exact ev_no
  | some e =>
    show Ev (Res.bind _ _) QL = _
    simp only [Ev.bind, Ev.noex, ev_ite, ev_ok]
theorem ev_compCons {g : GE} {f : EE} {env : Env} {d : D} {ds : List D} {QL : List D → Sto → Prop} : Ev (compGo g eYes f env (d :: ds) S) QL = withG g d env fun e => Ev (f e S) fun y S => Ev (compGo g eYes f env ds S) fun ys S => QL (y :: ys) S := by
  rw [ev_compConsG]
  congr 1
  funext e
  rw [ev_eYes, if_pos rfl]
theorem ev_comp2Nil {g g1 : GE} {p p1 : ET} {it1 : EL} {f : EE} {vs1 : List Nat} {env : Env} {QL : List D → Sto → Prop} : Ev (compGo2 g p it1 g1 p1 f vs1 env [] S) QL = QL [] S := Ev.of rfl
theorem ev_comp2Cons {g g1 : GE} {p p1 : ET} {it1 : EL} {f : EE} {vs1 : List Nat} {env : Env} {d : D} {ds : List D} {QL : List D → Sto → Prop} : Ev (compGo2 g p it1 g1 p1 f vs1 env (d :: ds) S) QL = withG g d env fun e => Ev (p e S) fun k S => if k = true then Ev (it1 e S) fun es S => Ev (compGo g1 p1 f (wipeE e vs1) es S) fun ys S => Ev (compGo2 g p it1 g1 p1 f vs1 env ds S) fun zs S => QL (ys ++ zs) S else Ev (compGo2 g p it1 g1 p1 f vs1 env ds S) QL := by
  show Ev (match g d env with | none => Res.stuck | some e => (p e S).noex.bind fun k S => if k = true then (it1 e S).noex.bind fun es S => (compGo g1 p1 f (wipeE e vs1) es S).bind fun ys S => (compGo2 g p it1 g1 p1 f vs1 env ds S).bind fun zs S => .ok (ys ++ zs) S else compGo2 g p it1 g1 p1 f vs1 env ds S) QL = _
  unfold withG
  cases g d env with
  | none => exact ev_no
  | some e =>
    show Ev (Res.bind _ _) QL = _
    simp only [Ev.bind, Ev.noex, ev_ite, ev_ok]
end
theorem forGo_inv {g : GE} {b : SS} {nx bk ct : Env → Sto → Prop} {rt : D → Sto → Prop} (P : Nat → Env → Sto → Prop) : ∀ (ds : List D) (i : Nat) (h : ∀ j d env S, ds[j]? = some d → P (i + j) env S → withG g d env fun env1 => EvS (b env1 S) (P (i + j + 1)) rt nx (P (i + j + 1))) (env : Env) (S : Sto), P i env S →
    (∀ env S, P (i + ds.length) env S → nx env S) → EvS (forGo g b ds env S) nx rt bk ct
  | [], i, _, env, S, p, q => by rw [ev_forNil]; exact q env S p
  | d :: ds, i, h, env, S, p, q => by
    have ih := fun env2 S2 p2 => forGo_inv (nx := nx) (bk := bk) (ct := ct) (rt := rt) P ds (i + 1) (fun j d env S hd hp => by
      have := h (j + 1) d env S (by simpa using hd) (by rw [show i + (j + 1) = i + 1 + j by omega]; exact hp)
      rw [show i + (j + 1) + 1 = i + 1 + j + 1 by omega] at this
      exact this) env2 S2 p2 (fun env S p => q env S (by rw [List.length_cons, show i + (ds.length + 1) = i + 1 + ds.length by omega]; exact p))
    rw [ev_forCons]
    exact (h 0 d env S rfl p).imp fun env1 z => z.imp (fun e S p2 => ih e S p2) (fun _ _ r => r) (fun _ _ r => r) (fun e S p2 => ih e S p2)
/-- a state goes along -/
theorem forGo_fold {γ β : Type} {g : GE} {b : SS} {nx bk ct : Env → Sto → Prop} {rt : D → Sto → Prop} (enc : γ → D) (P : β → Env → Sto → Prop) (step : β → γ → β) : ∀ (xs : List γ) (h : ∀ c x env S, x ∈ xs → P c env S → withG g (enc x) env fun env1 => EvS (b env1 S) (P (step c x)) rt nx (P (step c x))) (c : β) (env : Env) (S : Sto), P c env S →
    (∀ env S, P (xs.foldl step c) env S → nx env S) → EvS (forGo g b (xs.map enc) env S) nx rt bk ct
  | [], _, c, env, S, p, q => by rw [List.map_nil, ev_forNil]; exact q env S p
  | x :: xs, h, c, env, S, p, q => by
    have ih := fun env2 S2 p2 => forGo_fold (nx := nx) (bk := bk) (ct := ct) (rt := rt) enc P step xs (fun c x env S hx => h c x env S (List.mem_cons_of_mem _ hx)) (step c x) env2 S2 p2 q
    rw [List.map_cons, ev_forCons]
    exact (h c x env S List.mem_cons_self p).imp fun env1 z => z.imp (fun e S p2 => ih e S p2) (fun _ _ r => r) (fun _ _ r => r) (fun e S p2 => ih e S p2)
/-- what was walked goes along -/
theorem forGo_pre {γ : Type} {g : GE} {b : SS} {nx bk ct : Env → Sto → Prop} {rt : D → Sto → Prop} (enc : γ → D) (P : List γ → Env → Sto → Prop) : ∀ (xs pre : List γ) (h : ∀ pre' x post env S, pre ++ xs = pre' ++ x :: post → P pre' env S → withG g (enc x) env fun env1 => EvS (b env1 S) (P (pre' ++ [x])) rt nx (P (pre' ++ [x]))) (env : Env) (S : Sto), P pre env S →
    (∀ env S, P (pre ++ xs) env S → nx env S) → EvS (forGo g b (xs.map enc) env S) nx rt bk ct
  | [], pre, _, env, S, p, q => by rw [List.map_nil, ev_forNil]; exact q env S (by rw [List.append_nil]; exact p)
  | x :: xs, pre, h, env, S, p, q => by
    have ap : pre ++ x :: xs = (pre ++ [x]) ++ xs := by rw [List.append_assoc]; rfl
    have ih := fun env2 S2 p2 => forGo_pre (nx := nx) (bk := bk) (ct := ct) (rt := rt) enc P xs (pre ++ [x]) (fun pre' y post env S e => h pre' y post env S (by rw [ap]; exact e)) env2 S2 p2 (fun env S p => q env S (by rw [ap]; exact p))
    rw [List.map_cons, ev_forCons]
    exact (h pre x xs env S rfl p).imp fun env1 z => z.imp (fun e S p2 => ih e S p2) (fun _ _ r => r) (fun _ _ r => r) (fun e S p2 => ih e S p2)
theorem compGo_pure {γ : Type} {g : GE} {p : ET} {f : EE} {env0 : Env} {S : Sto} {Q : List D → Sto → Prop} (enc : γ → D) (keep : γ → Bool) (out : γ → D) (xs : List γ) (h : ∀ x ∈ xs, withG g (enc x) env0 fun env => Ev (p env S) fun b S1 => b = keep x ∧ S1 = S ∧ (keep x = true → Ev (f env S) fun d S2 => d = out x ∧ S2 = S)) :
    Ev (compGo g p f env0 (xs.map enc) S) Q = Q ((xs.filter keep).map out) S := by
  induction xs generalizing Q with
  | nil => exact ev_compNil
  | cons x xs ih =>
    have ih' := fun Q => ih (Q := Q) fun y hy => h y (List.mem_cons_of_mem _ hy)
    obtain ⟨env, e1, _, _, e2, rfl, rfl, e3⟩ := (h x List.mem_cons_self).out
    rw [List.map_cons, ev_compConsG]
    unfold withG
    rw [e1]
    show Ev (p env _) _ = _
    rw [Ev.of e2, List.filter_cons]
    cases hk : keep x with
    | true =>
      obtain ⟨_, _, e4, rfl, rfl⟩ := e3 hk
      rw [if_pos rfl, Ev.of e4, ih', if_pos rfl]
      rfl
    | false =>
      rw [if_neg (by simp), ih', if_neg (by simp)]
theorem compGo_all {γ : Type} {g : GE} {f : EE} {env0 : Env} {S : Sto} {Q : List D → Sto → Prop} (enc : γ → D) (out : γ → D) (xs : List γ) (h : ∀ x ∈ xs, withG g (enc x) env0 fun env => Ev (f env S) fun d S2 => d = out x ∧ S2 = S) :
    Ev (compGo g eYes f env0 (xs.map enc) S) Q = Q (xs.map out) S := by
  rw [compGo_pure enc (fun _ => true) out xs fun x hx => by
    obtain ⟨env, e1, e2⟩ := (h x hx).out
    unfold withG
    rw [e1]
    exact ⟨true, S, rfl, rfl, rfl, fun _ => e2⟩]
  rw [List.filter_eq_self.mpr fun _ _ => rfl]
/-- a comprehension whose steps change the store -/
theorem compGo_st {γ : Type} {g : GE} {f : EE} {env0 : Env} (enc : γ → D) (P : Nat → Sto → Prop) (R : γ → D → Prop) : ∀ (xs : List γ) (i : Nat) (S : Sto) (h : ∀ x ∈ xs, ∀ j S, j < i + xs.length → P j S → withG g (enc x) env0 fun env => Ev (f env S) fun y S' => P (j + 1) S' ∧ R x y), P i S →
    Ev (compGo g eYes f env0 (xs.map enc) S) fun ys S' => P (i + xs.length) S' ∧ ys.length = xs.length ∧ ∀ y ∈ ys, ∃ x ∈ xs, R x y
  | [], i, S, _, p => ⟨[], S, rfl, p, rfl, fun y hy => (by cases hy)⟩
  | x :: xs, i, S, h, p => by
    rw [List.map_cons, ev_compCons]
    refine (h x List.mem_cons_self i S (by rw [List.length_cons]; omega) p).imp fun env z => Ev.imp z fun y S1 ⟨p1, r1⟩ => ?_
    refine Ev.imp (compGo_st enc P R xs (i + 1) S1 (fun x hx j S hj => h x (List.mem_cons_of_mem _ hx) j S (by rw [List.length_cons]; omega)) p1) fun ys S' ⟨p3, hl, r3⟩ => ?_
    refine ⟨by rw [List.length_cons, show i + (xs.length + 1) = i + 1 + xs.length by omega]; exact p3, by rw [List.length_cons, List.length_cons, hl], fun z hz => ?_⟩
    rcases List.mem_cons.mp hz with r | r
    · rw [r]; exact ⟨x, List.mem_cons_self, r1⟩
    · obtain ⟨w, hw, rw'⟩ := r3 z r
      exact ⟨w, List.mem_cons_of_mem _ hw, rw'⟩
/-- two clauses, nothing tested in the first, the store as it was -/
theorem compGo2_all {γ δ : Type} {g g1 : GE} {p1 : ET} {f : EE} {it1 : EL} {vs1 : List Nat} {env0 : Env} {S : Sto} {QL : List D → Sto → Prop} (enc : γ → D) (enc1 : δ → D) (inn : γ → List δ) (keep : γ → δ → Bool) (out : γ → δ → D) (xs : List γ)
    (h : ∀ x ∈ xs, withG g (enc x) env0 fun env => Ev (it1 env S) fun es S1 => es = (inn x).map enc1 ∧ S1 = S ∧ ∀ y ∈ inn x, withG g1 (enc1 y) (wipeE env vs1) fun env' => Ev (p1 env' S) fun b S2 => b = keep x y ∧ S2 = S ∧ (keep x y = true → Ev (f env' S) fun d S3 => d = out x y ∧ S3 = S)) :
    Ev (compGo2 g eYes it1 g1 p1 f vs1 env0 (xs.map enc) S) QL = QL (xs.flatMap fun x => ((inn x).filter (keep x)).map (out x)) S := by
  induction xs generalizing QL with
  | nil => exact ev_comp2Nil
  | cons x xs ih =>
    have ih' := fun QL => ih (QL := QL) fun y hy => h y (List.mem_cons_of_mem _ hy)
    obtain ⟨env, e1, es, S1, e2, hes, hS, h3⟩ := (h x List.mem_cons_self).out
    rw [hes, hS] at e2
    rw [List.map_cons, ev_comp2Cons]
    unfold withG
    rw [e1]
    show Ev (eYes env S) _ = _
    rw [ev_eYes, if_pos rfl, Ev.of e2, compGo_pure enc1 (keep x) (out x) (inn x) h3, ih', List.flatMap_cons]
end DL

/-! DL14: == of encoded things, sorted, the pen that draws. -/
namespace DL
open PySem PySem.Spec PyProof.Rows L2
/-- an encoding that == tells apart -/
structure EqE {α : Type} (f : α → D) (n : Nat) : Prop where
  pl : ∀ a, pl (f a) = true
  dp : ∀ a, (toPy (f a)).depth ≤ n
  eq : ∀ a b, eqD (f a) (f b) = true ↔ a = b
theorem eqv_int (i j : Int) : PyData.eqv (.int i) (.int j) = (i == j) := by simp only [PyData.eqv]
theorem eqE_int : EqE D.int 0 := ⟨fun _ => rfl, fun _ => Nat.le_refl _, fun a b => by show PyData.eqv (.int a) (.int b) = true ↔ _; rw [eqv_int, beq_iff_eq]⟩
def dOpt : Option Int → D
  | none => .non
  | some i => .int i
theorem eqE_opt : EqE dOpt 0 := ⟨fun a => by cases a <;> rfl, fun a => by cases a <;> exact Nat.le_refl _, fun a b => by
  cases a <;> cases b
  · show PyData.eqv .none .none = true ↔ _; simp [PyData.eqv]
  · show PyData.eqv .none (.int _) = true ↔ _; simp [PyData.eqv]
  · show PyData.eqv (.int _) .none = true ↔ _; simp [PyData.eqv]
  · show PyData.eqv (.int _) (.int _) = true ↔ _; simp [PyData.eqv]⟩
theorem eqE_pair : EqE dPair 1 := ⟨fun a => rfl, fun a => Nat.le_refl _, fun a b => by
  show PyData.eqv (.tuple [.int _, .int _]) (.tuple [.int _, .int _]) = true ↔ _
  simp only [PyData.eqv, PyData.eqvAll, Bool.and_true, Bool.and_eq_true, beq_iff_eq]
  exact ⟨fun ⟨h1, h2⟩ => Prod.ext h1 h2, fun h => by rw [h]; exact ⟨rfl, rfl⟩⟩⟩
section
variable {α : Type} {f : α → D} {n : Nat}
theorem plAll_map (h : EqE f n) : ∀ xs : List α, plAll (xs.map f) = true
  | [] => rfl
  | x :: xs => by show (DL.pl (f x) && plAll (xs.map f)) = true; rw [h.pl x, plAll_map h xs] <;> rfl
theorem depthAll_map (h : EqE f n) : ∀ xs : List α, PyData.depthAll (toPyAll (xs.map f)) ≤ n
  | [] => Nat.zero_le _
  | x :: xs => by
    show max (PyData.depth (toPy (f x))) (PyData.depthAll (toPyAll (xs.map f))) ≤ n
    exact Nat.max_le.mpr ⟨h.dp x, depthAll_map h xs⟩
theorem eqvAll_map (h : EqE f n) : ∀ xs ys : List α, PyData.eqvAll (toPyAll (xs.map f)) (toPyAll (ys.map f)) = true ↔ xs = ys
  | [], [] => by simp only [List.map_nil, toPyAll, PyData.eqvAll]
  | [], y :: ys => by
    show PyData.eqvAll [] (toPy (f y) :: toPyAll (ys.map f)) = true ↔ _
    simp [PyData.eqvAll]
  | x :: xs, [] => by
    show PyData.eqvAll (toPy (f x) :: toPyAll (xs.map f)) [] = true ↔ _
    simp [PyData.eqvAll]
  | x :: xs, y :: ys => by
    show PyData.eqvAll (toPy (f x) :: toPyAll (xs.map f)) (toPy (f y) :: toPyAll (ys.map f)) = true ↔ _
    simp only [PyData.eqvAll, Bool.and_eq_true]
    rw [eqvAll_map h xs ys, List.cons.injEq]
    exact ⟨fun ⟨a, b⟩ => ⟨(h.eq x y).mp a, b⟩, fun ⟨a, b⟩ => ⟨(h.eq x y).mpr a, b⟩⟩
theorem eqE_lst (h : EqE f n) : EqE (fun xs : List α => .lst (xs.map f)) (n + 1) := ⟨fun xs => plAll_map h xs, fun xs => Nat.succ_le_succ (depthAll_map h xs), fun xs ys => by
  show PyData.eqv (.list _) (.list _) = true ↔ _
  simp only [PyData.eqv]
  exact eqvAll_map h xs ys⟩
theorem eqE_tup (h : EqE f n) : EqE (fun xs : List α => .tup (xs.map f)) (n + 1) := ⟨fun xs => plAll_map h xs, fun xs => Nat.succ_le_succ (depthAll_map h xs), fun xs ys => by
  show PyData.eqv (.tuple _) (.tuple _) = true ↔ _
  simp only [PyData.eqv]
  exact eqvAll_map h xs ys⟩
theorem EqE.okD (h : EqE f n) (hn : n ≤ 40) (a : α) : okD (f a) = true := by
  show (DL.pl (f a) && decide ((toPy (f a)).depth ≤ 40)) = true
  rw [h.pl a, Bool.true_and, decide_eq_true_eq]
  exact Nat.le_trans (h.dp a) hn
theorem EqE.eqD [DecidableEq α] (h : EqE f n) (a b : α) : eqD (f a) (f b) = decide (a = b) := by
  rw [Bool.eq_iff_iff, decide_eq_true_eq]
  exact h.eq a b
theorem EqE.oEq [DecidableEq α] (h : EqE f n) (hn : n ≤ 40) (a b : α) (S : Sto) (Q : D → Sto → Prop) : Ev (oEq (f a) (f b) S) Q = Q (.bl (decide (a = b))) S := by
  rw [ev_oEq (h.okD hn a) (h.okD hn b), h.eqD]
theorem EqE.oNe [DecidableEq α] (h : EqE f n) (hn : n ≤ 40) (a b : α) (S : Sto) (Q : D → Sto → Prop) : Ev (oNe (f a) (f b) S) Q = Q (.bl (!decide (a = b))) S := by
  rw [ev_oNe (h.okD hn a) (h.okD hn b), h.eqD]
end
/-! sorted -/
theorem leD_int (a b : Int) : leD (.int a) (.int b) = decide (a ≤ b) := by
  show (!PySem.W.dataLt (.int b) (.int a)) = _
  rw [PySem.W.dataLt_int]
  by_cases h : a ≤ b
  · rw [decide_eq_true h, decide_eq_false (by omega)]; rfl
  · rw [decide_eq_false h, decide_eq_true (by omega)]; rfl
theorem leD_pair (p q : Int × Int) : leD (dPair p) (dPair q) = leP p q := by
  have e : PySem.W.dataLt (toPy (dPair q)) (toPy (dPair p)) = if q.1 = p.1 then decide (q.2 < p.2) else decide (q.1 < p.1) := PySem.W.DatumOrd.lt_eq q p
  show (!PySem.W.dataLt (toPy (dPair q)) (toPy (dPair p))) = leP p q
  rw [e]
  unfold leP
  split
  · rename_i h
    by_cases h2 : q.2 < p.2
    · rw [decide_eq_true h2, decide_eq_false (by omega)]; rfl
    · rw [decide_eq_false h2, decide_eq_true (by omega)]; rfl
  · rename_i h
    by_cases h2 : q.1 < p.1
    · rw [decide_eq_true h2, decide_eq_false (by omega)]; rfl
    · rw [decide_eq_false h2, decide_eq_true (by omega)]; rfl
theorem ev_sortI (ns : List Int) (S : Sto) (Q : List D → Sto → Prop) : Ev (oSorted [.lst (ns.map .int)] S) Q = Q ((ns.mergeSort fun a b => decide (a ≤ b)).map .int) S := Ev.of (by
  show (if sortable (ns.map D.int) = true then Res.ok ((ns.map D.int).mergeSort leD) S else .stuck) = _
  rw [if_pos (by unfold sortable; rw [allInt_of]; rfl)]
  congr 1
  exact (PySem.W.sort_maps D.int fun a _ b _ => (leD_int a b).symm).symm)
theorem ev_sortP (ps : List (Int × Int)) (S : Sto) (Q : List D → Sto → Prop) : Ev (oSorted [.lst (ps.map dPair)] S) Q = Q ((ps.mergeSort leP).map dPair) S := Ev.of (by
  show (if sortable (ps.map dPair) = true then Res.ok ((ps.map dPair).mergeSort leD) S else .stuck) = _
  rw [if_pos (by unfold sortable; rw [allPair_of, Option.isSome_some, Bool.or_true])]
  congr 1
  exact (PySem.W.sort_maps dPair fun a _ b _ => (leD_pair a b).symm).symm)
end DL

/-! DL15: pairs, ranges, prefixes. -/
namespace DL
open PySem PySem.Spec PyProof.Rows L2
section
variable {env : Env} {S : Sto} {p : Int × Int} {k : Env → Prop} {Q : D → Sto → Prop} {QL : List D → Sto → Prop}
@[simp ↓] theorem wg_p {g h : GE} : withG (gTp 2 (gsCons g (gsCons h gsNil))) (dPair p) env k = withG g (.int p.1) env fun e => withG h (.int p.2) e k := wg_2
@[simp ↓] theorem ev_p0 : Ev (oIx (dPair p) (.int 0) S) Q = Q (.int p.1) S := Ev.of rfl
@[simp ↓] theorem ev_p1 : Ev (oIx (dPair p) (.int 1) S) Q = Q (.int p.2) S := Ev.of rfl
@[simp ↓] theorem ev_lenP : Ev (bLen [dPair p] S) Q = Q (.int 2) S := Ev.of rfl
@[simp ↓] theorem ev_maxPr : Ev (bMax [dPair p] S) Q = Q (.int (max p.1 p.2)) S := Ev.of rfl
@[simp ↓] theorem ev_minPr : Ev (bMin [dPair p] S) Q = Q (.int (min p.1 p.2)) S := Ev.of rfl
@[simp ↓] theorem wy_lP {k : Bool → Prop} : withTy "list" (dPair p) k = k false := rfl
@[simp ↓] theorem wy_tP {k : Bool → Prop} : withTy "tuple" (dPair p) k = k true := rfl
@[simp] theorem dPair_eq (a b : Int) : D.tup [.int a, .int b] = dPair (a, b) := rfl
end
/-! ranges -/
theorem enD_range (f : Nat → D) (n : Nat) : enD ((List.range n).map f) = (List.range n).map fun i => .tup [.int (i : Nat), f i] := by
  unfold enD
  refine List.ext_getElem? fun i => ?_
  rw [List.getElem?_mapIdx, List.getElem?_map, List.getElem?_map]
  by_cases hi : i < n
  · rw [List.getElem?_range hi]; rfl
  · rw [List.getElem?_eq_none (by rw [List.length_range]; omega)]; rfl
theorem zipD_range (f g : Nat → D) (n : Nat) : zipD ((List.range n).map f) ((List.range n).map g) = (List.range n).map fun i => .tup [f i, g i] := by
  unfold zipD
  refine List.ext_getElem? fun i => ?_
  rw [List.getElem?_zipWith, List.getElem?_map, List.getElem?_map, List.getElem?_map]
  by_cases hi : i < n
  · rw [List.getElem?_range hi]; rfl
  · rw [List.getElem?_eq_none (by rw [List.length_range]; omega)]; rfl
theorem cut_to (f : Nat → D) {n m : Nat} (h : m ≤ n) : cutD ((List.range n).map f) none (some (m : Nat)) = (List.range m).map f := by
  unfold cutD
  have hl : ((List.range n).map f).length = n := by rw [List.length_map, List.length_range]
  rw [hl, show HT.sIx n 0 none = 0 from HT.sIx_none n 0, show HT.sIx n n (some (m : Int)) = min m n from HT.sIx_nat n n m, Nat.min_eq_left h, List.drop_zero, Nat.sub_zero, ← List.map_take, List.take_range, Nat.min_eq_left h]
theorem cut_from_to (f : Nat → D) {n m : Nat} (h : m + 1 ≤ n) : cutD ((List.range n).map f) (some 1) (some ((m : Int) + 1)) = (List.range m).map fun i => f (i + 1) := by
  unfold cutD
  have hl : ((List.range n).map f).length = n := by rw [List.length_map, List.length_range]
  have e1 : HT.sIx n 0 (some 1) = 1 := by
    rw [show HT.sIx n 0 (some 1) = min 1 n from HT.sIx_nat n 0 1]
    omega
  have e2 : HT.sIx n n (some ((m : Int) + 1)) = m + 1 := by
    rw [show ((m : Int) + 1) = ((m + 1 : Nat) : Int) by omega, show HT.sIx n n (some ((m + 1 : Nat) : Int)) = min (m + 1) n from HT.sIx_nat n n (m + 1)]
    omega
  rw [hl, e1, e2]
  refine List.ext_getElem? fun i => ?_
  rw [List.getElem?_take, List.getElem?_drop, List.getElem?_map, List.getElem?_map]
  by_cases hi : i < m
  · rw [if_pos (by omega), List.getElem?_range (by omega), List.getElem?_range hi, Nat.add_comm 1 i]; rfl
  · rw [if_neg (by omega), List.getElem?_eq_none (by rw [List.length_range]; omega)]; rfl
theorem filter_range (n k : Nat) : (List.range n).filter (fun c => decide (c < k)) = List.range (min n k) := by
  induction n with
  | zero => rw [Nat.zero_min]; rfl
  | succ n ih =>
    rw [List.range_succ, List.filter_append, ih, List.filter_cons, List.filter_nil]
    by_cases h : n < k
    · rw [if_pos (by rw [decide_eq_true_eq]; exact h), Nat.min_eq_left (by omega), Nat.min_eq_left (by omega), List.range_succ]
    · rw [if_neg (by rw [decide_eq_true_eq]; exact h), Nat.min_eq_right (by omega), Nat.min_eq_right (by omega), List.append_nil]
@[simp ↓] theorem ev_lastA {xs : List D} {x : D} {S : Sto} {Q : D → Sto → Prop} : Ev (oIx (.lst (xs ++ [x])) (.int (-1)) S) Q = Q x S := ev_ixL (atI_last _ _)
@[simp ↓] theorem ev_lastT {xs : List D} {x : D} {S : Sto} {Q : D → Sto → Prop} : Ev (oIx (.tup (xs ++ [x])) (.int (-1)) S) Q = Q x S := ev_ixT (atI_last _ _)
theorem ev_last {γ : Type} (e : γ → D) (xs : List γ) (x : γ) {S : Sto} {Q : D → Sto → Prop} : Ev (oIx (.lst ((xs ++ [x]).map e)) (.int (-1)) S) Q = Q (e x) S := ev_ixL (by rw [List.map_append]; exact atI_last _ _)
end DL

/-! Stairs: lists of corners, what is least, cuts. Plain mathematics. -/
namespace DL
open PySem PySem.Spec PyProof.Rows L2
abbrev P2 := Int × Int
/-- one step of a cut -/
def cutStep (found : List P2) (p : P2) : List P2 := match found.getLast? with
  | none => [p]
  | some q => if p.2 < q.2 then found ++ [p] else found
theorem cutStep_nil (p : P2) : cutStep [] p = [p] := rfl
theorem cutStep_snoc (f : List P2) (q p : P2) : cutStep (f ++ [q]) p = if p.2 < q.2 then f ++ [q] ++ [p] else f ++ [q] := by
  unfold cutStep
  rw [List.getLast?_concat]
theorem snoc_of {α : Type} (f : List α) : f = [] ∨ ∃ g q, f = g ++ [q] := by
  cases h : f.getLast? with
  | none => exact .inl (List.getLast?_eq_none_iff.mp h)
  | some q => exact .inr ((List.getLast?_eq_some_iff.mp h).imp fun g e => ⟨q, e⟩)
/-- the corners of pairs, sorted -/
def cornersOf (ps : List P2) : List P2 := (ps.map fun p => (max p.1 p.2, p.2)).mergeSort leP
def cutP (ps : List P2) : List P2 := (cornersOf ps).foldl cutStep []
theorem leP_iff {p q : P2} : leP p q = true ↔ p.1 < q.1 ∨ (p.1 = q.1 ∧ p.2 ≤ q.2) := by unfold leP; rw [decide_eq_true_eq]
theorem corners_sorted (ps : List P2) : (cornersOf ps).Pairwise fun p q => leP p q = true :=
  List.pairwise_mergeSort (fun a b c h1 h2 => by rw [leP_iff] at *; omega) (fun a b => by rw [Bool.or_eq_true, leP_iff, leP_iff]; omega) _
theorem mem_corners {ps : List P2} {q : P2} : q ∈ cornersOf ps ↔ ∃ p ∈ ps, q = (max p.1 p.2, p.2) := by
  unfold cornersOf
  rw [List.mem_mergeSort, List.mem_map]
  exact ⟨fun ⟨p, h, e⟩ => ⟨p, h, e.symm⟩, fun ⟨p, h, e⟩ => ⟨p, h, e.symm⟩⟩
theorem corners_len (ps : List P2) : (cornersOf ps).length = ps.length := by unfold cornersOf; rw [List.length_mergeSort, List.length_map]
def Falls (p q : P2) : Prop := p.1 < q.1 ∧ q.2 < p.2
/-- what is known of a cut's state behind some of the sorted corners -/
structure CutOk (pre found : List P2) : Prop where
  len : found.length ≤ pre.length
  sub : ∀ q ∈ found, q ∈ pre
  cov : ∀ y ∈ pre, ∃ q ∈ found, q.1 ≤ y.1 ∧ q.2 ≤ y.2
  fal : found.Pairwise Falls
theorem CutOk.start : CutOk [] [] := ⟨Nat.le_refl _, fun _ h => h, fun _ h => absurd h (by simp), List.Pairwise.nil⟩
theorem CutOk.next {pre found : List P2} {p : P2} (h : CutOk pre found) (hs : ∀ q ∈ pre, leP q p = true) : CutOk (pre ++ [p]) (cutStep found p) := by
  rcases snoc_of found with e | ⟨f, q, e⟩
  · subst e
    rw [cutStep_nil]
    have hp : pre = [] := by
      cases pre with
      | nil => rfl
      | cons a r =>
        obtain ⟨q, hq, _⟩ := h.cov a (by simp)
        exact absurd hq (by simp)
    subst hp
    exact ⟨by simp, fun q hq => by simpa using hq, fun y hy => ⟨p, by simp, by simp at hy; rw [hy]; omega⟩, List.pairwise_singleton _ _⟩
  · subst e
    rw [cutStep_snoc]
    have hq : q ∈ pre := h.sub q (by simp)
    have hqp := leP_iff.mp (hs q hq)
    split
    · rename_i hlt
      refine ⟨by have := h.len; simp at this ⊢; omega, fun r hr => ?_, fun y hy => ?_, ?_⟩
      · rcases List.mem_append.mp hr with hr | hr
        · exact List.mem_append_left _ (h.sub r hr)
        · exact List.mem_append_right _ hr
      · rcases List.mem_append.mp hy with hy | hy
        · obtain ⟨r, h1, h2⟩ := h.cov y hy
          exact ⟨r, List.mem_append_left _ h1, h2⟩
        · exact ⟨p, by simp, by simp at hy; rw [hy]; omega⟩
      · rw [List.pairwise_append]
        refine ⟨h.fal, List.pairwise_singleton _ _, fun r hr s hs => ?_⟩
        have hs' : s = p := by simpa using hs
        subst hs'
        have fq : Falls q s := ⟨by omega, hlt⟩
        rcases List.mem_append.mp hr with hr | hr
        · have fr : Falls r q := (List.pairwise_append.mp h.fal).2.2 r hr q (by simp)
          exact ⟨by have := fr.1; have := fq.1; omega, by have := fr.2; have := fq.2; omega⟩
        · have hr' : r = q := by simpa using hr
          rw [hr']; exact fq
    · rename_i hge
      refine ⟨by have := h.len; simp at this ⊢; omega, fun r hr => List.mem_append_left _ (h.sub r hr), fun y hy => ?_, h.fal⟩
      rcases List.mem_append.mp hy with hy | hy
      · exact h.cov y hy
      · have hy' : y = p := by simpa using hy
        rw [hy']
        exact ⟨q, by simp, by omega, by omega⟩
theorem cut_go : ∀ (xs pre found : List P2), CutOk pre found → (pre ++ xs).Pairwise (fun p q => leP p q = true) → CutOk (pre ++ xs) (xs.foldl cutStep found)
  | [], pre, found, h, _ => by rw [List.append_nil]; exact h
  | x :: xs, pre, found, h, hs => by
    have ap : pre ++ x :: xs = (pre ++ [x]) ++ xs := by rw [List.append_assoc]; rfl
    rw [ap] at hs ⊢
    refine cut_go xs (pre ++ [x]) (cutStep found x) (h.next fun q hq => ?_) hs
    exact (List.pairwise_append.mp (List.pairwise_append.mp hs).1).2.2 q hq x (by simp)
theorem cut_ok (ps : List P2) : CutOk (cornersOf ps) (cutP ps) := by
  have := cut_go (cornersOf ps) [] [] CutOk.start (by rw [List.nil_append]; exact corners_sorted ps)
  rwa [List.nil_append] at this
theorem cut_pre {ps : List P2} {pre post : List P2} (e : cornersOf ps = pre ++ post) : CutOk pre (pre.foldl cutStep []) := by
  have hs := corners_sorted ps
  rw [e] at hs
  have := cut_go pre [] [] CutOk.start (by rw [List.nil_append]; exact (List.pairwise_append.mp hs).1)
  rwa [List.nil_append] at this

/-! ### stairs -/
structure Stair (b : Int) (s : List P2) : Prop where
  at_ : ∀ p ∈ s, 1 ≤ p.1 ∧ p.1 ≤ b ∧ 0 ≤ p.2 ∧ p.2 ≤ p.1
  fal : s.Pairwise Falls
theorem Stair.mono {b c : Int} {s : List P2} (h : Stair b s) (hb : b ≤ c) : Stair c s := ⟨fun p hp => by have := h.at_ p hp; omega, h.fal⟩
theorem cut_stair {ps : List P2} {b : Int} (h : ∀ p ∈ ps, 1 ≤ p.1 ∧ p.1 ≤ b ∧ 0 ≤ p.2 ∧ p.2 ≤ b) : Stair b (cutP ps) :=
  ⟨fun q hq => by
    obtain ⟨p, hp, e⟩ := mem_corners.mp ((cut_ok ps).sub q hq)
    have := h p hp
    rw [e]
    show 1 ≤ max p.1 p.2 ∧ max p.1 p.2 ≤ b ∧ 0 ≤ p.2 ∧ p.2 ≤ max p.1 p.2
    omega, (cut_ok ps).fal⟩
theorem cut_nonempty {ps : List P2} (h : ps ≠ []) : cutP ps ≠ [] := by
  cases ps with
  | nil => exact absurd rfl h
  | cons p r =>
    obtain ⟨q, hq, _⟩ := (cut_ok (p :: r)).cov _ (mem_corners.mpr ⟨p, by simp, rfl⟩)
    intro e
    rw [e] at hq
    exact absurd hq (by simp)
/-- count c is allowed by limit L -/
def Al (s : List P2) (c L : Int) : Prop := ∃ p ∈ s, p.1 ≤ L ∧ p.2 + c ≤ L
theorem cut_al {ps : List P2} {c L : Int} (hc : 0 ≤ c) : Al (cutP ps) c L ↔ Al ps c L := by
  constructor
  · rintro ⟨q, hq, h1, h2⟩
    obtain ⟨p, hp, e⟩ := mem_corners.mp ((cut_ok ps).sub q hq)
    rw [e] at h1 h2
    have h1' : max p.1 p.2 ≤ L := h1
    have h2' : p.2 + c ≤ L := h2
    exact ⟨p, hp, by omega, h2'⟩
  · rintro ⟨p, hp, h1, h2⟩
    obtain ⟨q, hq, h3, h4⟩ := (cut_ok ps).cov _ (mem_corners.mpr ⟨p, hp, rfl⟩)
    have h3' : q.1 ≤ max p.1 p.2 := h3
    have h4' : q.2 ≤ p.2 := h4
    exact ⟨q, hq, by omega, by omega⟩
/-- the least limit for a count -/
def lowI (s : List P2) (c : Int) : Int := match s.map (fun p => max p.1 (p.2 + c)) with
  | [] => 0
  | n :: ns => ns.foldl min n
theorem foldl_min_le : ∀ (ns : List Int) (n L : Int), ns.foldl min n ≤ L ↔ n ≤ L ∨ ∃ x ∈ ns, x ≤ L
  | [], n, L => by simp
  | x :: ns, n, L => by
    rw [List.foldl_cons, foldl_min_le ns (min n x) L]
    constructor
    · rintro (h | ⟨y, hy, h⟩)
      · rcases Int.le_total n x with q | q
        · exact .inl (by omega)
        · exact .inr ⟨x, by simp, by omega⟩
      · exact .inr ⟨y, by simp [hy], h⟩
    · rintro (h | ⟨y, hy, h⟩)
      · exact .inl (by omega)
      · rcases List.mem_cons.mp hy with e | e
        · exact .inl (by rw [e] at h; omega)
        · exact .inr ⟨y, e, h⟩
theorem lowI_le {s : List P2} (hs : s ≠ []) {c L : Int} : lowI s c ≤ L ↔ Al s c L := by
  cases s with
  | nil => exact absurd rfl hs
  | cons p r =>
    show (r.map fun p => max p.1 (p.2 + c)).foldl min (max p.1 (p.2 + c)) ≤ L ↔ _
    rw [foldl_min_le]
    constructor
    · rintro (h | ⟨x, hx, h⟩)
      · exact ⟨p, by simp, by omega, by omega⟩
      · obtain ⟨q, hq, rfl⟩ := List.mem_map.mp hx
        exact ⟨q, by simp [hq], by omega, by omega⟩
    · rintro ⟨q, hq, h1, h2⟩
      rcases List.mem_cons.mp hq with e | e
      · subst e; exact .inl (by omega)
      · exact .inr ⟨_, List.mem_map.mpr ⟨q, e, rfl⟩, by omega⟩
theorem lowI_eq {s t : List P2} (hs : s ≠ []) (ht : t ≠ []) {c d : Int} (h : ∀ L, Al s c L ↔ Al t d L) : lowI s c = lowI t d := by
  have h1 := (lowI_le hs (c := c) (L := lowI t d)).mpr ((h _).mpr ((lowI_le ht).mp (Int.le_refl _)))
  have h2 := (lowI_le ht (c := d) (L := lowI s c)).mpr ((h _).mp ((lowI_le hs).mp (Int.le_refl _)))
  omega
theorem lowI_mono {s : List P2} (hs : s ≠ []) {c d : Int} (h : c ≤ d) : lowI s c ≤ lowI s d := by
  rw [lowI_le hs]
  obtain ⟨p, hp, h1, h2⟩ := (lowI_le hs (c := d) (L := lowI s d)).mp (Int.le_refl _)
  exact ⟨p, hp, h1, by omega⟩
theorem lowI_zero {b : Int} {p : P2} {r : List P2} (h : Stair b (p :: r)) : lowI (p :: r) 0 = p.1 := by
  have hp := h.at_ p (by simp)
  have h1 : lowI (p :: r) 0 ≤ p.1 := (lowI_le (by simp)).mpr ⟨p, by simp, by omega, by omega⟩
  obtain ⟨q, hq, h2, h3⟩ := (lowI_le (s := p :: r) (by simp) (c := 0)).mp (Int.le_refl _)
  have h4 : p.1 ≤ q.1 := by
    rcases List.mem_cons.mp hq with e | e
    · rw [e]; omega
    · have := ((List.pairwise_cons.mp h.fal).1 q e).1; omega
  omega
/-- the number in a stair for a limit -/
def numIn (s : List P2) (L : Int) : Option Int := ((s.filter fun p => decide (p.1 ≤ L)).map Prod.snd).getLast?
theorem numIn_none {s : List P2} {L : Int} : numIn s L = none ↔ ∀ p ∈ s, L < p.1 := by
  unfold numIn
  rw [List.getLast?_eq_none_iff, List.map_eq_nil_iff, List.filter_eq_nil_iff]
  constructor
  · intro h p hp
    have := h p hp
    simp at this
    exact this
  · intro h p hp
    have := h p hp
    simp
    exact this
theorem numIn_some {b : Int} {s : List P2} (hs : Stair b s) {L n : Int} (h : numIn s L = some n) : (∃ p ∈ s, p.1 ≤ L ∧ p.2 = n) ∧ ∀ p ∈ s, p.1 ≤ L → n ≤ p.2 := by
  unfold numIn at h
  obtain ⟨ys, e⟩ := List.getLast?_eq_some_iff.mp h
  obtain ⟨f, l2, e1, e2, e3⟩ := List.map_eq_append_iff.mp e
  have h3 : ∃ q, l2 = [q] ∧ q.2 = n := by
    cases l2 with
    | nil => cases e3
    | cons q r =>
      cases r with
      | nil => exact ⟨q, rfl, by simpa using e3⟩
      | cons _ _ => simp at e3
  obtain ⟨q, rfl, hq⟩ := h3
  have mq : q ∈ s.filter fun p => decide (p.1 ≤ L) := by rw [e1]; simp
  rw [List.mem_filter, decide_eq_true_eq] at mq
  refine ⟨⟨q, mq.1, mq.2, hq⟩, fun p hp hL => ?_⟩
  have mp : p ∈ s.filter fun p => decide (p.1 ≤ L) := by rw [List.mem_filter, decide_eq_true_eq]; exact ⟨hp, hL⟩
  have fl : (f ++ [q]).Pairwise Falls := by rw [← e1]; exact hs.fal.filter _
  rw [e1] at mp
  rcases List.mem_append.mp mp with m | m
  · have := ((List.pairwise_append.mp fl).2.2 p m q (by simp)).2
    omega
  · have : p = q := by simpa using m
    rw [this]; omega
/-- the counts that a limit allows -/
theorem al_num {b : Int} {s : List P2} (hs : Stair b s) {c L : Int} : Al s c L ↔ ∃ n, numIn s L = some n ∧ n + c ≤ L := by
  constructor
  · rintro ⟨p, hp, h1, h2⟩
    cases h : numIn s L with
    | none => have := numIn_none.mp h p hp; omega
    | some n =>
      have := (numIn_some hs h).2 p hp h1
      exact ⟨n, rfl, by omega⟩
  · rintro ⟨n, h, h1⟩
    obtain ⟨⟨p, hp, h2, h3⟩, _⟩ := numIn_some hs h
    exact ⟨p, hp, h2, by omega⟩
theorem numIn_bounds {b : Int} {s : List P2} (hs : Stair b s) {L n : Int} (h : numIn s L = some n) : 0 ≤ n ∧ n ≤ L := by
  obtain ⟨⟨p, hp, h2, h3⟩, _⟩ := numIn_some hs h
  have := hs.at_ p hp
  omega
/-- a stair is told by its numbers -/
theorem numIn_cons {p : P2} {r : List P2} {L : Int} (h : p.1 ≤ L) : numIn (p :: r) L = some ((numIn r L).getD p.2) := by
  unfold numIn
  rw [List.filter_cons, if_pos (by rw [decide_eq_true_eq]; exact h), List.map_cons, List.getLast?_cons]
theorem Stair.tail {b : Int} {p : P2} {r : List P2} (h : Stair b (p :: r)) : Stair b r := ⟨fun q hq => h.at_ q (by simp [hq]), (List.pairwise_cons.mp h.fal).2⟩
theorem stair_ext : ∀ {b : Int} {s t : List P2}, Stair b s → Stair b t → (∀ L, 1 ≤ L → L ≤ b → numIn s L = numIn t L) → s = t
  | _, [], [], _, _, _ => rfl
  | b, [], q :: u, _, ht, h => by
    have hq := ht.at_ q (by simp)
    have := h q.1 (by omega) (by omega)
    rw [numIn_cons (Int.le_refl _)] at this
    cases this
  | b, p :: r, [], hs, _, h => by
    have hp := hs.at_ p (by simp)
    have := h p.1 (by omega) (by omega)
    rw [numIn_cons (Int.le_refl _)] at this
    cases this
  | b, p :: r, q :: u, hs, ht, h => by
    have hp := hs.at_ p (by simp)
    have hq := ht.at_ q (by simp)
    have fp := (List.pairwise_cons.mp hs.fal).1
    have fq := (List.pairwise_cons.mp ht.fal).1
    have nr : numIn r p.1 = none := numIn_none.mpr fun x hx => (fp x hx).1
    have nu : numIn u q.1 = none := numIn_none.mpr fun x hx => (fq x hx).1
    have e1 := h p.1 (by omega) (by omega)
    have e2 := h q.1 (by omega) (by omega)
    rw [numIn_cons (Int.le_refl _), nr] at e1
    rw [numIn_cons (p := q) (Int.le_refl _), nu] at e2
    have l1 : ¬ p.1 < q.1 := fun z => by
      rw [show numIn (q :: u) p.1 = none from numIn_none.mpr fun x hx => by
        rcases List.mem_cons.mp hx with e | e
        · rw [e]; exact z
        · have := (fq x e).1; omega] at e1
      cases e1
    have l2 : ¬ q.1 < p.1 := fun z => by
      rw [show numIn (p :: r) q.1 = none from numIn_none.mpr fun x hx => by
        rcases List.mem_cons.mp hx with e | e
        · rw [e]; exact z
        · have := (fp x e).1; omega] at e2
      cases e2
    have e3 : p.1 = q.1 := by omega
    rw [e3, numIn_cons (Int.le_refl _), nu] at e1
    have e4 : p.2 = q.2 := by simpa using e1
    have e5 : p = q := Prod.ext e3 e4
    subst e5
    rw [stair_ext hs.tail ht.tail fun L h1 h2 => ?_]
    by_cases hL : p.1 ≤ L
    · have e6 := h L h1 h2
      rw [numIn_cons hL, numIn_cons hL] at e6
      cases h7 : numIn r L with
      | none =>
        cases h8 : numIn u L with
        | none => rfl
        | some n =>
          rw [h7, h8] at e6
          obtain ⟨⟨x, hx, _, h10⟩, _⟩ := numIn_some ht.tail h8
          have := (fq x hx).2
          simp at e6
          omega
      | some m =>
        cases h8 : numIn u L with
        | none =>
          rw [h7, h8] at e6
          obtain ⟨⟨x, hx, _, h10⟩, _⟩ := numIn_some hs.tail h7
          have := (fp x hx).2
          simp at e6
          omega
        | some n =>
          rw [h7, h8] at e6
          simpa using e6
    · rw [numIn_none.mpr fun x hx => by have := (fp x hx).1; omega, numIn_none.mpr fun x hx => by have := (fq x hx).1; omega]
/-! ### the law's looks -/
/-- the same least limits, the same stair -/
theorem low_tells {b : Int} {s t : List P2} (hs : Stair b s) (ht : Stair b t) (ns : s ≠ []) (nt : t ≠ []) {n : Nat} (hn : b < n) (h : ∀ c : Nat, c < n → lowI s c = lowI t c) : s = t := by
  refine stair_ext hs ht fun L h1 h2 => ?_
  have key : ∀ (u v : List P2), Stair b u → Stair b v → u ≠ [] → v ≠ [] → (∀ c : Nat, c < n → lowI u c = lowI v c) → ∀ m, numIn u L = some m → ∃ k, numIn v L = some k ∧ k ≤ m := fun u v hu hv nu nv hh m hm => by
    obtain ⟨b1, b2⟩ := numIn_bounds hu hm
    obtain ⟨c, hc⟩ := Int.eq_ofNat_of_zero_le (show 0 ≤ L - m by omega)
    have hcn : c < n := by omega
    have a1 : Al u c L := (al_num hu).mpr ⟨m, hm, by omega⟩
    have a2 : Al v c L := by rw [← lowI_le nv, ← hh c hcn, lowI_le nu]; exact a1
    obtain ⟨k, h3, h4⟩ := (al_num hv).mp a2
    exact ⟨k, h3, by omega⟩
  have k1 := key s t hs ht ns nt h
  have k2 := key t s ht hs nt ns fun c hc => (h c hc).symm
  cases e1 : numIn s L with
  | none =>
    cases e2 : numIn t L with
    | none => rfl
    | some m =>
      obtain ⟨k, h3, _⟩ := k2 m e2
      rw [e1] at h3
      cases h3
  | some m =>
    obtain ⟨k, h3, h4⟩ := k1 m e1
    obtain ⟨k', h5, h6⟩ := k2 k h3
    rw [e1] at h5
    cases h5
    rw [h3]
    congr 1
    omega
/-- the counts that a limit allows are the first ones -/
theorem low_le_iff {b : Int} {s : List P2} (hs : Stair b s) (ns : s ≠ []) {c : Nat} {L : Int} : lowI s c ≤ L ↔ (c : Int) < match numIn s L with | some n => L - n + 1 | none => 0 := by
  rw [lowI_le ns, al_num hs]
  cases numIn s L with
  | none => simp
  | some n => simp; omega
/-! ### of two, the greater -/
/-- limits at which one of two falls, from the greater of the firsts on; the greater number at each -/
def greatPs (s t : List P2) (start : Int) (lims : List Int) : List P2 := lims.map fun L => (L, max ((numIn s L).getD 0) ((numIn t L).getD 0))
theorem numIn_anti {b : Int} {s : List P2} (hs : Stair b s) {L M m : Int} (h : numIn s L = some m) (hLM : L ≤ M) : ∃ k, numIn s M = some k ∧ k ≤ m := by
  obtain ⟨⟨p, hp, h1, h2⟩, _⟩ := numIn_some hs h
  cases e : numIn s M with
  | none => have := numIn_none.mp e p hp; omega
  | some k => exact ⟨k, rfl, by have := (numIn_some hs e).2 p hp (by omega); omega⟩
theorem great_al {b : Int} {s t : List P2} (hs : Stair b s) (ht : Stair b t) {start : Int} {lims : List Int} (h1 : ∀ L ∈ lims, start ≤ L) (h2 : ∀ p, p ∈ s ∨ p ∈ t → start ≤ p.1 → p.1 ∈ lims) (h3 : ∃ p ∈ s, p.1 ≤ start) (h4 : ∃ p ∈ t, p.1 ≤ start) (h5 : start ∈ lims)
    (h6 : ∀ L ∈ lims, ∃ p, (p ∈ s ∨ p ∈ t) ∧ p.1 = L) (h7 : ∀ L, L < start → numIn s L = none ∨ numIn t L = none) {c L : Int} :
    Al (greatPs s t start lims) c L ↔ Al s c L ∧ Al t c L := by
  have some_at : ∀ M, start ≤ M → (∃ m, numIn s M = some m) ∧ ∃ k, numIn t M = some k := fun M hM => by
    constructor
    · obtain ⟨p, hp, h⟩ := h3
      cases e : numIn s M with
      | none => have := numIn_none.mp e p hp; omega
      | some m => exact ⟨m, rfl⟩
    · obtain ⟨p, hp, h⟩ := h4
      cases e : numIn t M with
      | none => have := numIn_none.mp e p hp; omega
      | some m => exact ⟨m, rfl⟩
  constructor
  · rintro ⟨q, hq, a1, a2⟩
    obtain ⟨M, hM, rfl⟩ := List.mem_map.mp hq
    obtain ⟨⟨m, hm⟩, k, hk⟩ := some_at M (h1 M hM)
    have a1' : M ≤ L := a1
    have a2' : max ((numIn s M).getD 0) ((numIn t M).getD 0) + c ≤ L := a2
    rw [hm, hk] at a2'
    have a3 : max m k + c ≤ L := a2'
    obtain ⟨m', hm', l1⟩ := numIn_anti hs hm a1'
    obtain ⟨k', hk', l2⟩ := numIn_anti ht hk a1'
    exact ⟨(al_num hs).mpr ⟨m', hm', by omega⟩, (al_num ht).mpr ⟨k', hk', by omega⟩⟩
  · rintro ⟨a1, a2⟩
    obtain ⟨m, hm, l1⟩ := (al_num hs).mp a1
    obtain ⟨k, hk, l2⟩ := (al_num ht).mp a2
    have hL : start ≤ L := by
      rcases Int.lt_or_le L start with z | z
      · rcases h7 L z with e | e
        · rw [hm] at e; cases e
        · rw [hk] at e; cases e
      · exact z
    -- the last corner of each up to L
    obtain ⟨⟨p, hp, p1, p2⟩, pm⟩ := numIn_some hs hm
    obtain ⟨⟨q, hq, q1, q2⟩, qm⟩ := numIn_some ht hk
    -- the greatest limit of all up to L
    have hM : ∃ M ∈ lims, M ≤ L ∧ p.1 ≤ M ∧ q.1 ≤ M := by
      rcases Int.le_total p.1 q.1 with z | z
      · rcases Int.le_total q.1 start with y | y
        · exact ⟨start, h5, hL, by omega, y⟩
        · exact ⟨q.1, h2 q (.inr hq) y, q1, z, Int.le_refl _⟩
      · rcases Int.le_total p.1 start with y | y
        · exact ⟨start, h5, hL, y, by omega⟩
        · exact ⟨p.1, h2 p (.inl hp) y, p1, Int.le_refl _, z⟩
    obtain ⟨M, mM, mL, mp, mq⟩ := hM
    obtain ⟨⟨m', hm'⟩, k', hk'⟩ := some_at M (h1 M mM)
    have e1 := (numIn_some hs hm').2 p hp mp
    have e2 := (numIn_some ht hk').2 q hq mq
    refine ⟨_, List.mem_map.mpr ⟨M, mM, rfl⟩, mL, ?_⟩
    show max ((numIn s M).getD 0) ((numIn t M).getD 0) + c ≤ L
    rw [hm', hk']
    show max m' k' + c ≤ L
    omega
end DL

set_option maxHeartbeats 4000000
/-! E22: an own exception over the package's base, whose __init__ says super().__init__(v) and keeps v. -/
namespace PySem
namespace SupX
open PySem.W PySem.Calls PyProof.Rows PySem.HandSPX
/-! ### the text of __init__ -/
def iA (f : Str) (p1 p2 : Pos) : Arguments := { posonlyargs := [], args := [{ arg := "self", annotation := none, pos := p1 }, { arg := f, annotation := none, pos := p2 }], vararg := none, kwonlyargs := [], kw_defaults := [], kwarg := none, defaults := [] }
def iB (f : Str) (q1 q2 q3 q4 q5 q6 r1 r2 r3 r4 : Pos) : List Stmt :=
  [.Expr (.Call (.Attribute (.Call (.Name "super" q1) [] [] q2) "__init__" q3) [.Name f q4] [] q5) q6, .Assign [.Attribute (.Name "self" r1) f r2] (.Name f r3) r4]
def iS (f : Str) : Scope := { kind := .function, names := [(PySem.Str.ofString "self", .local), (f, .local), (PySem.Str.ofString "__class__", .free), (PySem.Str.ofString "super", .globalImplicit)], isGenerator := false, isCoroutine := false, more := [] }
def iA2 (f g : Str) (p1 p2 p3 : Pos) : Arguments := { posonlyargs := [], args := [{ arg := "self", annotation := none, pos := p1 }, { arg := f, annotation := none, pos := p2 }, { arg := g, annotation := none, pos := p3 }], vararg := none, kwonlyargs := [], kw_defaults := [], kwarg := none, defaults := [] }
def iB2 (f g : Str) (q1 q2 q3 q4 q4' q5 q6 r1 r2 r3 r4 u1 u2 u3 u4 : Pos) : List Stmt :=
  [.Expr (.Call (.Attribute (.Call (.Name "super" q1) [] [] q2) "__init__" q3) [.Name f q4, .Name g q4'] [] q5) q6, .Assign [.Attribute (.Name "self" r1) f r2] (.Name f r3) r4, .Assign [.Attribute (.Name "self" u1) g u2] (.Name g u3) u4]
def iS2 (f g : Str) : Scope := { kind := .function, names := [(PySem.Str.ofString "self", .local), (f, .local), (g, .local), (PySem.Str.ofString "__class__", .free), (PySem.Str.ofString "super", .globalImplicit)], isGenerator := false, isCoroutine := false, more := [] }
/-- what the written part says of the class at C -/
structure SupC (prog : Program) (K : Frag) (mg : Str → Option Value) (C cc cda : Addr) : Prop where
  cls : ∃ nm q N bs bm sn sub ab col dd k0 k1 k2 k3 k5, K.lookup C = some (excClassObj nm q C N bs bm true sn sub ab col dd k0 k1 k2 k3 k5 "ValueError.__new__") ∧ PySem.HandSPX.refsVE bm = true
  sa : findIn K (.ref C) "__setattr__" = some (some (.builtin "object.__setattr__"))
  kC : keepIn K (.ref C) = true
  exC : subIn K (.ref C) (.type "BaseException") = some true
  tyC : typeIn K (.ref C) = some (.type "type")
  sup : ks_superIn K C C "__init__" = some (some (.builtin "ValueError.__init__"))
  subV : subIn K (.ref C) (.type "ValueError") = some true
  opq : nsIn K cStatics "thirdparty.any" = some none
  noS : mg "super" = none
  mroS : mroIn K C (.ref C) = some true
  cell : ∃ cl cld csl, K.lookup cc = some ⟨cl, cld, .cell (some (.ref C)), csl⟩
  code : ∃ ccl cdd vs ccs file tf, K.lookup cda = some ⟨ccl, cdd, .fields vs, ccs⟩ ∧ vs[2]? = some (.str file tf) ∧ ((prog.main.file : Str) == file) = true
  top : (prog.main.scope.names.lookup ("super" : Str)).isSome = false
  iC : ∃ fI, findIn K (.ref C) "__init__" = some (some (.ref fI))
section
variable {prog : Program} {w : World} {A : Around} {E : Value → Shared → Prop} {s : Shared}
/-- the wrapper is called -/
theorem call_mw {h : Heap} {g : Array GenState} {d : Drawn} {t : Nat} {os : OsState} {nm q : Str} {C N : Addr} {bs bm : List Value} {hdct : Bool} {sn : List Str} {sub : List Value} {ab : Bool} {col : Option Bool} {dd : Option Addr} {k0 k1 k2 k3 k5 : Option Value}
    {u e t0 : Addr} {rest : List Value} {Q : Value → Shared → Prop}
    (hC : h.get? C = some (excClassObj nm q C N bs bm hdct sn sub ab col dd k0 k1 k2 k3 k5 "ValueError.__new__")) (he : h.get? e = some (HandSPX.excO C t0)) (hu : h.get? u = some (kxs_mw "ValueError.__init__" e)) (hrest : rest.length ≤ sizeLine)
    (hq : ∀ h' t1, (∀ b o, b ≠ e → h.get? b = some o → h'.get? b = some o) → h'.get? e = some (HandSPX.excO C t1) → Q .none ⟨h', g, d, t, os⟩) :
    wpAny (model prog w) A (call (.ref u) rest) Q E ⟨h, g, d, t, os⟩ := by
  refine wpAny_call (codeAny_of_tree ?_)
  show wpAny _ A.in1 (callAny (.ref u) ⟨rest, []⟩) _ _ _
  simp only [callAny]
  refine wpAny_bind (wpAny_load hu ?_)
  simp only [kxs_mw, show (Value.type "method-wrapper" == Value.type "method" || Value.type "method-wrapper" == Value.type "builtin_function_or_method" || Value.type "method-wrapper" == Value.type "method-wrapper") = true by decide, if_true]
  refine KFB.if_so (by decide) ?_
  refine wpAny_bind (check_bound_init F.excBase_ValueError.toExcCallFacts hC he rfl ?_)
  refine wpAny_bind (wpAny_pure (wpAny_pure ?_))
  refine ⟨plainId_quiet F.excBase_ValueError.init.plain _, codeAny_builtin F.excBase_ValueError.initEntry ?_⟩
  exact exc_init_tree (cls := .ref C) (t0 := t0) (dv := none) (c2 := .none) (c3 := .none) (b4 := .bool false) he hrest fun h' k e' _ => hq h' _ k e'
/-- what a heap keeps of the module -/
structure Here (K : Frag) (mg : Str → Option Value) (h : Heap) : Prop where
  kin : K.In h
  glob : h.Ns mainGlobals mg
  blt : ∃ mb, h.Ns builtinsNs mb ∧ ∀ x : Str, x ≠ "__name__" → mb x = bootBuiltins x
  nolim : h.NoLimit
theorem Here.keeps {K : Frag} {mg : Str → Option Value} {h h' : Heap} (a : Here K mg h) (k : ∀ b o, h.get? b = some o → h'.get? b = some o) : Here K mg h' := by
  obtain ⟨mb, h1, h2⟩ := a.blt
  exact ⟨a.kin.keeps k, a.glob.keeps k, ⟨mb, h1.keeps k, h2⟩, a.nolim.keeps k⟩
theorem one_size (v : Value) : [v].length ≤ sizeLine := by
  rw [sizeLine_eq]
  exact (by decide : 1 ≤ 16777216)
theorem two_size (v u : Value) : [v, u].length ≤ sizeLine := by
  rw [sizeLine_eq]
  exact (by decide : 2 ≤ 16777216)
theorem ldC {M : Model} {s : Shared} {env : Env} {m : Str → Option Value} {x : Str} {pos : Pos} {v : Value} {Q : Value → Shared → Prop} {A : Around} {E : Value → Shared → Prop} (hn : s.heap.Ns env.locals m) (hv : m x = some v)
    (hk : env.scope.kind = .function) (hl : env.kindOf x = some .local) (hd : (x == ("__debug__" : Str)) = false) (h : Q v s) :
    wpAny M A (eval (.Name x pos) env) Q E s := wpAny_Name (wpAny_loadName_local hk hl hn hv h) hd
/-- super().__init__(..), the first statement of the def at fI -/
theorem sup_stmt {K : Frag} {mg m : Str → Option Value} {C cc cda fI x t0 L : Addr} {of : Obj} {fd : FuncData} {ar : Arg} {qual : Str} {scope : Scope} {body : List Stmt} {args : List Expr} {vs : List Value} {q1 q2 q3 q5 q6 : Pos} {pl : Sem Bool} {Q : Flow → Shared → Prop}
    (T : SupC prog K mg C cc cda) (W : Here K mg s.heap) (hf : s.heap.get? fI = some of) (hfd : of.data = .func fd) (hp : (fd.params.posonlyargs ++ fd.params.args).head? = some ar) (hn : s.heap.Ns L m) (hself : m ar.arg = some (.ref x)) (hx : s.heap.get? x = some (HandSPX.excO C t0))
    (hks : scope.names.lookup ("super" : Str) = some .globalImplicit) (hkc : scope.names.lookup ("__class__" : Str) = some .free) (hka : scope.names.lookup ar.arg = some .local) (hk : scope.kind = .function)
    (hvs : vs.length ≤ sizeLine) (hpl : (backTo q5 (starEach args (ksEnv qual scope L fI (.ref cda) cc))).any (·.1) = false) (hnl : ∃ e rest, backTo q5 (starEach args (ksEnv qual scope L fI (.ref cda) cc)) = (false, e) :: rest)
    (hargs : ∀ (s1 : Shared) (Q1 : List Value → Shared → Prop) (E1 : Value → Shared → Prop), (∀ b o, s.heap.get? b = some o → s1.heap.get? b = some o) → Q1 vs s1 → wpAny (model prog w) A (spliced (backTo q5 (starEach args (ksEnv qual scope L fI (.ref cda) cc)))) Q1 E1 s1)
    (hq : ∀ h' tk t1, (∀ b o, b ≠ x → s.heap.get? b = some o → h'.get? b = some o) → h'.get? x = some (HandSPX.excO C t1) → Q .next { s with heap := h', toks := tk })
    (he : eval (.Call (.Attribute (.Call (.Name "super" q1) [] [] q2) "__init__" q3) args [] q5) (ksEnv qual scope L fI (.ref cda) cc) = (do
      let ov ← attributeBase (.Call (.Name "super" q1) [] [] q2) "__init__" (ksEnv qual scope L fI (.ref cda) cc) (eval (.Call (.Name "super" q1) [] [] q2) (ksEnv qual scope L fI (.ref cda) cc))
      standAt q3.atName
      let (f, first) ← holding [ov] (getMethod ov "__init__" pl)
      callWith q5 f first (backTo q5 (starEach args (ksEnv qual scope L fI (.ref cda) cc))) []))
    (hi : interactive (ksEnv qual scope L fI (.ref cda) cc) = false) (hs : swapsWith (.Call (.Attribute (.Call (.Name "super" q1) [] [] q2) "__init__" q3) args [] q5) none q6.line (ksEnv qual scope L fI (.ref cda) cc) = pure false) :
    _root_.PySem.wpAt (model prog w) A (.func body (ksEnv qual scope L fI (.ref cda) cc)) (exec (.Expr (.Call (.Attribute (.Call (.Name "super" q1) [] [] q2) "__init__" q3) args [] q5) q6) (ksEnv qual scope L fI (.ref cda) cc)) Q E s := by
  obtain ⟨nm, q, N, bs, bm, sn, sub, ab, col, dd, k0, k1, k2, k3, k5, hC, hbm⟩ := T.cls
  obtain ⟨cl, cld, csl, hcell⟩ := T.cell
  obtain ⟨ccl, cdd, cvs, ccs, file, tf, hcode, hvs2, hfile⟩ := T.code
  obtain ⟨mb, hb1, hb2⟩ := W.blt
  have hcl : clsIn K C = some { name := nm, bases := bs, mro := .ref C :: bm, ns := N, qualname := q, hasDict := true, slotNames := sn, subclasses := sub, abstract := ab, collection := col, hasDel := false } := by unfold clsIn; rw [hC] <;> rfl
  have I : InstAt s.heap x (HandSPX.excO C t0) C none := ⟨hx, rfl, rfl, trivial⟩
  have hcn : s.heap.get? C = some (excClassObj nm q C N bs bm true sn sub ab col dd k0 k1 k2 k3 k5 "ValueError.__new__") := W.kin _ _ hC
  refine ks_wpAt_Expr_any ?_ hi hs
  refine ks_wpAt_MethodCall (pl := pl) ?_ he
  refine ks_wpAt_super_base (env := ksEnv qual scope L fI (.ref cda) cc) hks hkc rfl rfl hf hfd hp rfl (W.kin _ _ hcode) rfl hvs2 hfile T.top ?_
  refine ks_loadName_global hk hks (loadGlobal_builtin (env := ksEnv qual scope L fI (.ref cda) cc) W.glob T.noS hb1 ((hb2 _ (by decide)).trans PyProof.Rows.Boot.«super») ⟨rfl, ?_⟩)
  refine wpAny_loadName_free hk hkc rfl ⟨_, W.kin _ _ hcell, rfl⟩ ?_
  refine wpAny_loadName_local hk hka hn hself ?_
  refine ks_wpAny_isType_cls hcn rfl ⟨rfl, ?_⟩
  obtain ⟨hh, g, d, t, os⟩ := s
  refine ks_wpAny_call_super hcn rfl hx rfl (fun c e => by cases e) (looks_mroIn W.kin T.mroS) (fun h1 e1 kk1 => ?_)
  have W1 := W.keeps kk1
  have I1 : InstAt h1 x (HandSPX.excO C t0) C none := ⟨kk1 _ _ hx, rfl, rfl, trivial⟩
  have hm := T.sup
  unfold ks_superIn at hm
  rw [hcl] at hm
  refine kxs_getMethod kxs_ValueError e1 (looks_opaque W1.kin T.opq) (l₀ := .ref C :: bm) ?_ rfl W1.kin hm (I1.type.andThen (looks_subIn W1.kin T.subV)) (ks_ne W1.kin I1 hcl) rfl ?_
  · exact fun A Q E s k q => wpAny_bind ((looks_clsIn W1.kin hcl) A _ E s k (wpAny_pure q))
  have hu : (h1.push (kxs_mw "ValueError.__init__" x)).get? h1.objs.size = some (kxs_mw "ValueError.__init__" x) := Heap.get?_push_at rfl rfl
  have kk2 : ∀ b o, hh.get? b = some o → (h1.push (kxs_mw "ValueError.__init__" x)).get? b = some o := fun b o e => Heap.get?_push_of_some _ (kk1 b o e)
  have W2 := W.keeps kk2
  refine kxs_callWith (i := "ValueError.__init__") (x := x) hpl ?_
  obtain ⟨e0, rest, hnl⟩ := hnl
  have ha := fun Q1 E1 => hargs ⟨h1.push (kxs_mw "ValueError.__init__" x), g, d, t + 1, os⟩ Q1 E1 kk2
  rw [hnl] at ha ⊢
  refine evalArgs_plain (ha _ _ ⟨hu, ?_⟩)
  refine call_mw (W2.kin _ _ hC) (kk2 _ _ hx) hu hvs fun h' t1 k' hx' => ?_
  exact hq h' _ t1 (fun b o hb e => k' b o hb (kk2 b o e)) hx'
theorem he_sup {env : Env} {q1 q2 q3 q5 : Pos} {e : Expr} {es : List Expr} (h : (q3.endLine == q5.line) = true) (hf : methodCallForm ((e :: es).length + 0) (backTo q5 (starEach (e :: es) env)) (backToKw q5 (keywordEach [] env)) = true) :
    eval (.Call (.Attribute (.Call (.Name "super" q1) [] [] q2) "__init__" q3) (e :: es) [] q5) env = (do
      let ov ← attributeBase (.Call (.Name "super" q1) [] [] q2) "__init__" env (eval (.Call (.Name "super" q1) [] [] q2) env)
      standAt q3.atName
      let (f, first) ← holding [ov] (getMethod ov "__init__" (do return (← importBound (.Call (.Name "super" q1) [] [] q2) env).getD true))
      callWith q5 f first (backTo q5 (starEach (e :: es) env)) []) := by
  have hp : methodCallPos true (.Call (.Name "super" q1) [] [] q2) env q3 q5 = pure q5 := by
    unfold methodCallPos
    rw [h]
    rfl
  show (attributeBase (.Call (.Name "super" q1) [] [] q2) "__init__" env (eval (.Call (.Name "super" q1) [] [] q2) env) >>= fun ov => standAt q3.atName >>= fun _ => methodCall (.Call (.Name "super" q1) [] [] q2) "__init__" q3 q5 env ov ((e :: es).length + 0) (backTo q5 (starEach (e :: es) env)) (backToKw q5 (keywordEach [] env))) = _
  unfold methodCall
  rw [hf]
  simp only [hp, calleeOf, if_true]
  rfl
/-- what __init__ leaves of a fresh exception at x -/
structure InitEnd (h h' : Heap) (x C dx : Addr) (m : Str → Option Value) : Prop where
  keep : ∀ b o, b ≠ x → h.get? b = some o → h'.get? b = some o
  obj : ∃ t1 : Addr, h'.get? x = some { cls := .ref C, dict := some dx, data := .fields #[.ref t1, .none, .none, .none, .bool false, .none] }
  dbig : h.objs.size ≤ dx
  dne : dx ≠ x
  ns : h'.Ns1 dx m
/-- what the written part says of __init__ with one parameter -/
structure Init1 (K : Frag) (C fI cc cda : Addr) (f : Str) : Prop where
  fn : ∃ (oc : Value) (od : Option Addr) (doc pm : Value) (an : Option Addr) (ct : Value) (osl : Array (Option Value)) (qual : Str) (p1 p2 q1 q2 q3 q4 q5 q6 r1 r2 r3 r4 : Pos),
    K.lookup fI = some ⟨oc, od, .func (ksFn "__init__" qual (iA f p1 p2) (iB f q1 q2 q3 q4 q5 q6 r1 r2 r3 r4) (iS f) .none .none doc pm an (.ref cda) ct cc), osl⟩ ∧ codeIn K (.ref cda) qual = true ∧ (q3.endLine == q5.line) = true
  iC : findIn K (.ref C) "__init__" = some (some (.ref fI))
  tI : typeIn K (.ref fI) = some (.type "function")
  noN : findIn K (.ref C) f = some none
  ks : (iS f).names.lookup ("super" : Str) = some .globalImplicit
  kc : (iS f).names.lookup ("__class__" : Str) = some .free
  kf : (iS f).names.lookup f = some .local
  sf : (("self" : Str) == f) = false
  hd : (f == ("__debug__" : Str)) = false
  bd : ∀ (qual : Str) (p1 p2 : Pos) (body : List Stmt) (doc pm cdv ct : Value) (an : Option Addr) (cc : Addr) (a b : Value), bindArgs (ksFn "__init__" qual (iA f p1 p2) body (iS f) .none .none doc pm an cdv ct cc) ⟨[a, b], []⟩ = pure [(("self" : Str), a), (f, b)]
theorem init1 {R : Result → Shared → Prop} {K : Frag} {mg : Str → Option Value} {C cc cda fI x t0 : Addr} {f : Str} {v : Value} (T : SupC prog K mg C cc cda) (T1 : Init1 K C fI cc cda f) (W : Here K mg s.heap) (hx : s.heap.get? x = some (HandSPX.excO C t0)) (hnx : K.lookup x = none) (hroom : A.depth < recursionLimit)
    (hq : ∀ h' tk dx, InitEnd s.heap h' x C dx (fun y => if y = f then some v else none) → R (.ok (.ret .none)) { s with heap := h', toks := tk }) :
    codeAny (model prog w) A (.call (.ref fI) ⟨[.ref x, v], []⟩) R s := by
  obtain ⟨oc, od, doc, pm, an, ct, osl, qual, p1, p2, q1, q2, q3, q4, q5, q6, r1, r2, r3, r4, ho, hcd, hln⟩ := T1.fn
  obtain ⟨nm, q, N, bs, bm, sn, sub, ab, col, dd, k0, k1, k2, k3, k5, hC, hbm⟩ := T.cls
  have hcl : clsIn K C = some { name := nm, bases := bs, mro := .ref C :: bm, ns := N, qualname := q, hasDict := true, slotNames := sn, subclasses := sub, abstract := ab, collection := col, hasDel := false } := by unfold clsIn; rw [hC] <;> rfl
  refine ks_codeAny_call_defAt (binds := [("self", .ref x), (f, v)]) (body := iB f q1 q2 q3 q4 q5 q6 r1 r2 r3 r4) hroom (W.kin _ _ ho) rfl W.nolim (codeRec_of W.kin hcd) rfl (BindsTo.of_eq (T1.bd _ _ _ _ _ _ _ _ _ _ _ _)) (fun y hy => ?_) (fun y hy => ?_) (fun h₁ hns k => ?_) rfl rfl rfl
  · rcases List.mem_cons.mp hy with rfl | hy
    · exact fun z => by cases z
    rcases List.mem_cons.mp hy with rfl | hy
    · exact fun z => by cases z
    rcases List.mem_cons.mp hy with rfl | hy
    · exact fun z => by cases z
    rcases List.mem_cons.mp hy with rfl | hy
    · exact fun z => by cases z
    · cases hy
  · rcases List.mem_cons.mp hy with rfl | hy
    · rfl
    rcases List.mem_cons.mp hy with rfl | hy
    · exact T1.kf
    · cases hy
  have hself : (fun y => ([("self", Value.ref x), (f, v)] : List (Str × Value)).reverse.lookup y) "self" = some (Value.ref x) := by
    show List.lookup ("self" : Str) [(f, v), ("self", Value.ref x)] = _
    simp [List.lookup, T1.sf]
  have hf : (fun y => ([("self", Value.ref x), (f, v)] : List (Str × Value)).reverse.lookup y) f = some v := by
    show List.lookup f [(f, v), ("self", Value.ref x)] = _
    simp [List.lookup]
  have z : s.heap.objs.size < h₁.objs.size := hns.lt
  have hxL : s.heap.objs.size ≠ x := Nat.ne_of_gt (Heap.lt_size hx)
  have hx₁ := k _ _ hx
  show _root_.PySem.wpAt _ _ (.func _ (ksEnv qual (iS f) s.heap.objs.size fI (.ref cda) cc)) (execs (iB f q1 q2 q3 q4 q5 q6 r1 r2 r3 r4) (ksEnv qual (iS f) s.heap.objs.size fI (.ref cda) cc)) _ _ _
  refine ks_wpAt_execs_cons (sup_stmt (pl := _) (vs := [v]) T (W.keeps k) (k _ _ (W.kin _ _ ho)) rfl rfl hns hself hx₁ T1.ks T1.kc rfl rfl (one_size v) rfl ⟨_, _, rfl⟩ (fun s1 Q1 E1 k1 h1 => ?_) (fun h₂ tk t1 k₂ hx₂ => ?_) (he_sup hln rfl) rfl (by rfl))
  · refine Calls.spliced_cons (ldC (m := fun y => ([("self", Value.ref x), (f, v)] : List (Str × Value)).reverse.lookup y) (hns.keeps k1) hf rfl T1.kf T1.hd ?_)
    exact Calls.spliced_nil h1
  have kk : ∀ b o, b ≠ x → s.heap.get? b = some o → h₂.get? b = some o := fun b o hb e => k₂ b o hb (k b o e)
  have X₂ : K.In h₂ := fun b o e => kk b o (fun hb => by rw [hb, hnx] at e; cases e) (W.kin _ _ e)
  have hn₂ : h₂.Ns s.heap.objs.size (fun y => ([("self", Value.ref x), (f, v)] : List (Str × Value)).reverse.lookup y) := by
    obtain ⟨oL, es, ep, e1, e2⟩ := hns
    exact ⟨oL, es, ep, k₂ _ _ hxL e1, e2⟩
  show wpAt _ _ _ (execs _ _) _ _ _
  refine ks_wpAt_execs_cons (ks_wpAt_Assign_Attr (wpAt_of_wpAny ?_) (by rfl))
  refine ldC hn₂ hf rfl T1.kf T1.hd (ldC hn₂ hself rfl rfl (by decide) ?_)
  refine set_plain X₂ (ox := HandSPX.excO C t1) (od := none) ⟨hx₂, rfl, rfl, trivial⟩ T.sa ?_
  refine exc_osa X₂ hx₂ hcl (show refsVE (.ref C :: bm) = true from hbm) rfl T1.noN (fun h₃ tk₃ dx k₃ dn dne hx₃ hn₃ => ?_)
  refine wpAt_of_wpAny (wpAny_execs_nil (hq h₃ tk₃ dx ⟨fun b o hb e => k₃ b o hb (kk b o hb e), ⟨t1, hx₃⟩, ?_, dne, hn₃⟩))
  exact Nat.le_of_lt (Nat.lt_of_lt_of_le hn₂.lt dn)
/-- what the written part says of __init__ with two parameters -/
structure Init2 (K : Frag) (C fI cc cda : Addr) (f g : Str) : Prop where
  fn : ∃ (oc : Value) (od : Option Addr) (doc pm : Value) (an : Option Addr) (ct : Value) (osl : Array (Option Value)) (qual : Str) (p1 p2 p3 q1 q2 q3 q4 q4' q5 q6 r1 r2 r3 r4 u1 u2 u3 u4 : Pos),
    K.lookup fI = some ⟨oc, od, .func (ksFn "__init__" qual (iA2 f g p1 p2 p3) (iB2 f g q1 q2 q3 q4 q4' q5 q6 r1 r2 r3 r4 u1 u2 u3 u4) (iS2 f g) .none .none doc pm an (.ref cda) ct cc), osl⟩ ∧ codeIn K (.ref cda) qual = true ∧ (q3.endLine == q5.line) = true
  iC : findIn K (.ref C) "__init__" = some (some (.ref fI))
  tI : typeIn K (.ref fI) = some (.type "function")
  noN : findIn K (.ref C) f = some none
  noM : findIn K (.ref C) g = some none
  ks : (iS2 f g).names.lookup ("super" : Str) = some .globalImplicit
  kc : (iS2 f g).names.lookup ("__class__" : Str) = some .free
  kf : (iS2 f g).names.lookup f = some .local
  kg : (iS2 f g).names.lookup g = some .local
  sf : (("self" : Str) == f) = false
  sg : (("self" : Str) == g) = false
  fg : (f == g) = false
  hd : (f == ("__debug__" : Str)) = false
  he : (g == ("__debug__" : Str)) = false
  bd : ∀ (qual : Str) (p1 p2 p3 : Pos) (body : List Stmt) (doc pm cdv ct : Value) (an : Option Addr) (cc : Addr) (a b c : Value), bindArgs (ksFn "__init__" qual (iA2 f g p1 p2 p3) body (iS2 f g) .none .none doc pm an cdv ct cc) ⟨[a, b, c], []⟩ = pure [(("self" : Str), a), (f, b), (g, c)]
theorem init2 {R : Result → Shared → Prop} {K : Frag} {mg : Str → Option Value} {C cc cda fI x t0 : Addr} {f g : Str} {v v' : Value} (T : SupC prog K mg C cc cda) (T1 : Init2 K C fI cc cda f g) (W : Here K mg s.heap) (hx : s.heap.get? x = some (HandSPX.excO C t0)) (hnx : K.lookup x = none) (hroom : A.depth < recursionLimit)
    (hq : ∀ h' tk dx, InitEnd s.heap h' x C dx (fun y => if y = g then some v' else if y = f then some v else none) → R (.ok (.ret .none)) { s with heap := h', toks := tk }) :
    codeAny (model prog w) A (.call (.ref fI) ⟨[.ref x, v, v'], []⟩) R s := by
  obtain ⟨oc, od, doc, pm, an, ct, osl, qual, p1, p2, p3, q1, q2, q3, q4, q4', q5, q6, r1, r2, r3, r4, u1, u2, u3, u4, ho, hcd, hln⟩ := T1.fn
  obtain ⟨nm, q, N, bs, bm, sn, sub, ab, col, dd, k0, k1, k2, k3, k5, hC, hbm⟩ := T.cls
  have hcl : clsIn K C = some { name := nm, bases := bs, mro := .ref C :: bm, ns := N, qualname := q, hasDict := true, slotNames := sn, subclasses := sub, abstract := ab, collection := col, hasDel := false } := by unfold clsIn; rw [hC] <;> rfl
  refine ks_codeAny_call_defAt (binds := [("self", .ref x), (f, v), (g, v')]) (body := iB2 f g q1 q2 q3 q4 q4' q5 q6 r1 r2 r3 r4 u1 u2 u3 u4) hroom (W.kin _ _ ho) rfl W.nolim (codeRec_of W.kin hcd) rfl (BindsTo.of_eq (T1.bd _ _ _ _ _ _ _ _ _ _ _ _ _ _)) (fun y hy => ?_) (fun y hy => ?_) (fun h₁ hns k => ?_) rfl rfl rfl
  · rcases List.mem_cons.mp hy with rfl | hy
    · exact fun z => by cases z
    rcases List.mem_cons.mp hy with rfl | hy
    · exact fun z => by cases z
    rcases List.mem_cons.mp hy with rfl | hy
    · exact fun z => by cases z
    rcases List.mem_cons.mp hy with rfl | hy
    · exact fun z => by cases z
    rcases List.mem_cons.mp hy with rfl | hy
    · exact fun z => by cases z
    · cases hy
  · rcases List.mem_cons.mp hy with rfl | hy
    · rfl
    rcases List.mem_cons.mp hy with rfl | hy
    · exact T1.kf
    rcases List.mem_cons.mp hy with rfl | hy
    · exact T1.kg
    · cases hy
  have hself : (fun y => ([("self", Value.ref x), (f, v), (g, v')] : List (Str × Value)).reverse.lookup y) "self" = some (Value.ref x) := by
    show List.lookup ("self" : Str) [(g, v'), (f, v), ("self", Value.ref x)] = _
    simp [List.lookup, T1.sf, T1.sg]
  have hf : (fun y => ([("self", Value.ref x), (f, v), (g, v')] : List (Str × Value)).reverse.lookup y) f = some v := by
    show List.lookup f [(g, v'), (f, v), ("self", Value.ref x)] = _
    simp [List.lookup, T1.fg]
  have hg : (fun y => ([("self", Value.ref x), (f, v), (g, v')] : List (Str × Value)).reverse.lookup y) g = some v' := by
    show List.lookup g [(g, v'), (f, v), ("self", Value.ref x)] = _
    simp [List.lookup]
  have z : s.heap.objs.size < h₁.objs.size := hns.lt
  have hxL : s.heap.objs.size ≠ x := Nat.ne_of_gt (Heap.lt_size hx)
  have hx₁ := k _ _ hx
  show _root_.PySem.wpAt _ _ (.func _ (ksEnv qual (iS2 f g) s.heap.objs.size fI (.ref cda) cc)) (execs (iB2 f g q1 q2 q3 q4 q4' q5 q6 r1 r2 r3 r4 u1 u2 u3 u4) (ksEnv qual (iS2 f g) s.heap.objs.size fI (.ref cda) cc)) _ _ _
  refine ks_wpAt_execs_cons (sup_stmt (pl := _) (vs := [v, v']) T (W.keeps k) (k _ _ (W.kin _ _ ho)) rfl rfl hns hself hx₁ T1.ks T1.kc rfl rfl (two_size v v') rfl ⟨_, _, rfl⟩ (fun s1 Q1 E1 kq h1 => ?_) (fun h₂ tk t1 k₂ hx₂ => ?_) (he_sup hln rfl) rfl (by rfl))
  · refine Calls.spliced_cons (ldC (m := fun y => ([("self", Value.ref x), (f, v), (g, v')] : List (Str × Value)).reverse.lookup y) (hns.keeps kq) hf rfl T1.kf T1.hd ?_)
    refine Calls.spliced_cons (ldC (m := fun y => ([("self", Value.ref x), (f, v), (g, v')] : List (Str × Value)).reverse.lookup y) (hns.keeps kq) hg rfl T1.kg T1.he ?_)
    exact Calls.spliced_nil h1
  have kk : ∀ b o, b ≠ x → s.heap.get? b = some o → h₂.get? b = some o := fun b o hb e => k₂ b o hb (k b o e)
  have X₂ : K.In h₂ := fun b o e => kk b o (fun hb => by rw [hb, hnx] at e; cases e) (W.kin _ _ e)
  have hn₂ : h₂.Ns s.heap.objs.size (fun y => ([("self", Value.ref x), (f, v), (g, v')] : List (Str × Value)).reverse.lookup y) := by
    obtain ⟨oL, es, ep, e1, e2⟩ := hns
    exact ⟨oL, es, ep, k₂ _ _ hxL e1, e2⟩
  show wpAt _ _ _ (execs _ _) _ _ _
  refine ks_wpAt_execs_cons (ks_wpAt_Assign_Attr (wpAt_of_wpAny ?_) (by rfl))
  refine ldC hn₂ hf rfl T1.kf T1.hd (ldC hn₂ hself rfl rfl (by decide) ?_)
  refine set_plain X₂ (ox := HandSPX.excO C t1) (od := none) ⟨hx₂, rfl, rfl, trivial⟩ T.sa ?_
  refine exc_osa X₂ hx₂ hcl (show refsVE (.ref C :: bm) = true from hbm) rfl T1.noN (fun h₃ tk₃ dx k₃ dn dne hx₃ hn₃ => ?_)
  have kk3 : ∀ b o, b ≠ x → s.heap.get? b = some o → h₃.get? b = some o := fun b o hb e => k₃ b o hb (kk b o hb e)
  have X₃ : K.In h₃ := fun b o e => kk3 b o (fun hb => by rw [hb, hnx] at e; cases e) (W.kin _ _ e)
  have hn₃' : h₃.Ns s.heap.objs.size (fun y => ([("self", Value.ref x), (f, v), (g, v')] : List (Str × Value)).reverse.lookup y) := by
    obtain ⟨oL, es, ep, e1, e2⟩ := hn₂
    exact ⟨oL, es, ep, k₃ _ _ hxL e1, e2⟩
  obtain ⟨oD, _, _, hoD, _, _⟩ := id hn₃
  show wpAt _ _ _ (execs _ _) _ _ _
  refine ks_wpAt_execs_cons (ks_wpAt_Assign_Attr (wpAt_of_wpAny ?_) (by rfl))
  refine ldC hn₃' hg rfl T1.kg T1.he (ldC hn₃' hself rfl rfl (by decide) ?_)
  refine set_plain X₃ (ox := { cls := .ref C, dict := some dx, data := .fields #[.ref t1, .none, .none, .none, .bool false, .none] }) (od := some oD) ⟨hx₃, rfl, rfl, hoD⟩ T.sa ?_
  refine PySem.OEX.osa_old X₃ hx₃ hn₃ (Within.cons f v Within.nil) (by show 1 ≤ 1000; decide) hcl (show refsVE (.ref C :: bm) = true from hbm) rfl T1.noM (fun h₄ tk₄ k₄ hn₄ => ?_)
  have hd : s.heap.objs.size ≤ dx := Nat.le_of_lt (Nat.lt_of_lt_of_le hn₂.lt dn)
  refine wpAt_of_wpAny (wpAny_execs_nil (hq h₄ tk₄ dx ⟨fun b o hb e => k₄ b o (Nat.ne_of_lt (Nat.lt_of_lt_of_le (Heap.lt_size e) hd)) (kk3 b o hb e), ⟨t1, k₄ _ _ (Ne.symm dne) hx₃⟩, hd, dne, hn₄⟩))
/-- __init__ with the values us, on a fresh exception -/
def InitOk (P : Program) (w : World) (K : Frag) (mg : Str → Option Value) (C fI : Addr) (us : List Value) (m : Str → Option Value) : Prop :=
  ∀ (A : Around) (s : Shared) (R : Result → Shared → Prop) (x t0 : Addr), Here K mg s.heap → s.heap.get? x = some (HandSPX.excO C t0) → K.lookup x = none → A.depth < recursionLimit →
    (∀ h' tk dx, InitEnd s.heap h' x C dx m → R (.ok (.ret .none)) { s with heap := h', toks := tk }) → codeAny (model P w) A (.call (.ref fI) ⟨.ref x :: us, []⟩) R s
theorem init1_ok {K : Frag} {mg : Str → Option Value} {C cc cda fI : Addr} {f : Str} {v : Value} (T : SupC prog K mg C cc cda) (T1 : Init1 K C fI cc cda f) : InitOk prog w K mg C fI [v] (fun y => if y = f then some v else none) :=
  fun _ _ _ _ _ W hx hnx hr hq => init1 T T1 W hx hnx hr hq
theorem init2_ok {K : Frag} {mg : Str → Option Value} {C cc cda fI : Addr} {f g : Str} {v u : Value} (T : SupC prog K mg C cc cda) (T1 : Init2 K C fI cc cda f g) : InitOk prog w K mg C fI [v, u] (fun y => if y = g then some u else if y = f then some v else none) :=
  fun _ _ _ _ _ W hx hnx hr hq => init2 T T1 W hx hnx hr hq
/-- an exception that was made -/
structure Made (h h' : Heap) (e C d : Addr) (m : Str → Option Value) : Prop where
  keep : ∀ b o, h.get? b = some o → h'.get? b = some o
  new : h.objs.size ≤ e
  obj : ∃ oe vs, h'.get? e = some oe ∧ oe.cls = .ref C ∧ oe.dict = some d ∧ oe.data = .fields vs ∧ vs[1]? = some .none
  dbig : h.objs.size ≤ d
  dne : d ≠ e
  ns : h'.Ns1 d m
theorem made {R : Result → Shared → Prop} {K : Frag} {mg : Str → Option Value} {C cc cda fI : Addr} {us : List Value} {m : Str → Option Value} (T : SupC prog K mg C cc cda) (iC : findIn K (.ref C) "__init__" = some (some (.ref fI))) (tI : typeIn K (.ref fI) = some (.type "function")) (I : InitOk prog w K mg C fI us m)
    (W : Here K mg s.heap) (hus : us.length ≤ sizeLine) (hroom : A.depth + 1 < recursionLimit) (hq : ∀ h' tk e d, Made s.heap h' e C d m → R (.ok (.ret (.ref e))) { s with heap := h', toks := tk }) :
    codeAny (model prog w) A (.call (.ref C) ⟨us, []⟩) R s := by
  obtain ⟨nm, q, N, bs, bm, sn, sub, ab, col, dd, k0, k1, k2, k3, k5, hC, hbm⟩ := T.cls
  obtain ⟨hp, g, dr, tk, os⟩ := s
  have k : ∀ b o, hp.get? b = some o → ((hp.push (kdv_tup us)).push (excO C hp.objs.size)).get? b = some o := fun b o e => Heap.get?_push_of_some _ (Heap.get?_push_of_some _ e)
  have hget : ((hp.push (kdv_tup us)).push (excO C hp.objs.size)).get? (hp.objs.size + 1) = some (excO C hp.objs.size) := by heap_get
  have hnx : K.lookup (hp.objs.size + 1) = none := by
    cases e : K.lookup (hp.objs.size + 1) with
    | none => rfl
    | some o =>
      have z : hp.get? (hp.objs.size + 1) = some o := W.kin _ _ e
      exact absurd (Nat.lt_of_succ_lt (Heap.lt_size z)) (Nat.lt_irrefl _)
  refine call_own F.excBase_ValueError (fun X => refsVE_contains X bm hbm) (W.kin _ _ hC) (looks_findIn W.kin iC) (fun self => bind_fn W.kin self tI) hus ?_
  refine I _ ⟨(hp.push (kdv_tup us)).push (excO C hp.objs.size), g, dr, tk, os⟩ _ _ _ (W.keeps k) hget hnx ?_ fun h' tk' dx ⟨k', hx, dn, dne, hns⟩ => ?_
  · show A.depth + 1 < recursionLimit
    exact hroom
  · have old : ∀ b o, hp.get? b = some o → h'.get? b = some o := fun b o e => k' b o (Nat.ne_of_lt (Nat.lt_succ_of_lt (Heap.lt_size e))) (k b o e)
    have z : hp.objs.size + 1 + 1 ≤ dx := by
      first
        | (simpa only [Heap.size_push] using dn)
        | exact dn
        | (have q := dn; rw [Heap.size_push, Heap.size_push] at q; exact q)
    obtain ⟨t1, hx⟩ := hx
    exact ⟨rfl, hq h' tk' (hp.objs.size + 1) dx ⟨old, Nat.le_succ _, ⟨_, _, hx, rfl, rfl, rfl, rfl⟩, Nat.le_trans (Nat.le_trans (Nat.le_succ _) (Nat.le_succ _)) z, dne, hns⟩⟩
end
end SupX
end PySem

set_option maxHeartbeats 4000000
/-! E23: raise BadX(..), in the data layer. -/
namespace L2
open PySem PySem.Spec PyProof.Rows PySem.SupX
section
variable {X : Cx} {C cc cda fI : Addr} {pins : List (Addr × Obj)} {σ : St} {H : Hp} {s : Shared}
theorem here_of (I : Inv X pins σ H s) : Here X.K X.mg s.heap := by
  obtain ⟨mb, h1, h2⟩ := I.mod.blt
  exact ⟨I.kIn, I.mod.glob.keeps I.bk, ⟨mb, h1.keeps I.bk, h2⟩, I.nolimit⟩
/-- C(e, ..): its dict is new, with the fields ns -/
def tMkSup (C : Addr) (ns : List Str) (ta : TA) : St → Hp → XK → Prop := fun σ H Q => ta σ H fun vs H1 => vs.length = ns.length ∧ ∀ d, H1 d = none → Q (.ref C) (some d) (upd H1 d (.xd (ns.zip vs)))
/-- what __init__ makes of the values -/
structure InitF (P : Program) (w : World) (K : PySem.W.Frag) (mg : Str → Option Value) (C fI : Addr) (ns : List Str) : Prop where
  run : ∀ us : List Value, us.length = ns.length → ∃ m, InitOk P w K mg C fI us m ∧ ∀ vs : List V, Vals vs us → ∀ f, RelO ((ns.zip vs).lookup f) (m f)
  iC : PySem.W.findIn K (.ref C) "__init__" = some (some (.ref fI))
  tI : PySem.W.typeIn K (.ref fI) = some (.type "function")
  sz : ns.length ≤ 2
theorem initF1 {P : Program} {w : World} {K : PySem.W.Frag} {mg : Str → Option Value} {f : Str} (T : SupC P K mg C cc cda) (T1 : Init1 K C fI cc cda f) : InitF P w K mg C fI [f] where
  run := fun us hu => match us, hu with
    | [u], _ => ⟨_, init1_ok T T1, fun vs r g => by
      cases r with
      | cons r1 r2 =>
        cases r2
        show RelO (List.lookup g [(f, _)]) _
        by_cases h : g = f
        · subst h
          simp [List.lookup]
          exact r1
        · have e : (g == f) = false := by simpa using h
          simp [List.lookup, e, h]
          trivial⟩
  iC := T1.iC
  tI := T1.tI
  sz := by show 1 ≤ 2; decide
theorem initF2 {P : Program} {w : World} {K : PySem.W.Frag} {mg : Str → Option Value} {f g : Str} (T : SupC P K mg C cc cda) (T1 : Init2 K C fI cc cda f g) : InitF P w K mg C fI [f, g] where
  run := fun us hu => match us, hu with
    | [u, u'], _ => ⟨_, init2_ok T T1, fun vs r y => by
      cases r with
      | cons r1 r2 =>
        cases r2 with
        | cons r3 r4 =>
          cases r4
          show RelO (List.lookup y [(f, _), (g, _)]) _
          have fg : f ≠ g := by simpa using T1.fg
          by_cases h : y = f
          · subst h
            simp [List.lookup, fg]
            exact r1
          · have e : (y == f) = false := by simpa using h
            by_cases h2 : y = g
            · subst h2
              simp [List.lookup, e]
              exact r3
            · have e2 : (y == g) = false := by simpa using h2
              simp [List.lookup, e, h, e2, h2]
              trivial⟩
  iC := T1.iC
  tI := T1.tI
  sz := by show 2 ≤ 2; decide
theorem pmk_sup {e : Expr} {es : List Expr} {ta : TA} {p pos : Pos} {k : Nat} {x : Str} {ns : List Str} (T : SupC X.prog X.K X.mg C cc cda) (F : InitF X.prog X.w X.K X.mg C fI ns) (hr : Room k X.A) (ha : PA X (e :: es) ta) (hg : Gl X x) (hm : X.mg x = some (.ref C))
    (hdb : (x == ("__debug__" : Str)) = false := by decide) (he : starEach (e :: es) X.env = (false, eval e X.env) :: starEach es X.env := by rfl) (hpl : (backTo pos (starEach es X.env)).any (·.1) = false := by rfl) :
    PMk X (.Call (.Name x p) (e :: es) [] pos) (tMkSup C ns ta) := by
  intro pins s σ H Q I h
  refine wpAny_Call_Name_kw (ld_glob I hg hm ?_ hdb)
  refine PySem.W.callWith_K (h₀ := X.base) I.ok.mod.kin T.kC (thn (ha.run pos pins s σ H _ I h) fun us s1 ⟨vs, H1, I1, r1, hl, q1⟩ => ⟨I1.kIn, ?_⟩) he hpl
  show wpAny _ _ (call (.ref C) us) _ _ _
  have hul : us.length = ns.length := by rw [← Paired.length r1]; exact hl
  obtain ⟨m, hI, hrel⟩ := F.run us hul
  have hus : us.length ≤ sizeLine := by
    rw [hul, sizeLine_eq]
    have := F.sz
    omega
  have hW := here_of I1
  obtain ⟨hp, g, dr, tk, os⟩ := s1
  refine wpAny_call (PySem.SupX.made T F.iC F.tI hI hW hus (by have := hr.dp; omega) fun h' tk' e d M => ?_)
  show MkP X pins σ Q (.ref e) ⟨h', g, dr, tk', os⟩
  obtain ⟨oe, fv, hoe, hc, hd, hdat, h1⟩ := M.obj
  have hns := M.ns
  obtain ⟨G', g1, g2⟩ := restrict h' fun b => decide (b ≠ e)
  have gk : ∀ b, b ≠ e → G'.get? b = h'.get? b := fun b hb => g1 b (decide_eq_true hb)
  have ge : G'.get? e = none := g2 e (by simp)
  have old : ∀ b o, hp.get? b = some o → G'.get? b = some o := fun b o q => (gk b (Nat.ne_of_lt (Nat.lt_of_lt_of_le (Heap.lt_size q) M.new))).trans (M.keep b o q)
  have ob : ObjOk X.prog X.w (upd H1 d (.xd (ns.zip vs))) G' d (.xd (ns.zip vs)) :=
    ⟨_, hns.at (fun o q => (gk d M.dne).trans q), fun f => hrel vs r1 f⟩
  have J : Inv X pins σ (upd H1 d (.xd (ns.zip vs))) ⟨G', g, dr, tk', os⟩ := I1.laid (t' := tk') old M.dbig ob
  refine ⟨e, oe, fv, ⟨G', g, dr, tk', os⟩, _, .ref C, some d, rfl, J, fun b o q => ?_, ge, hoe, ⟨hc, hd⟩, hdat, h1, ?_, rfl, I1.bare, raises_own T.exC T.tyC, q1 d (I1.hok.fresh M.dbig)⟩
  · by_cases hb : b = e
    · have q' : G'.get? b = some o := q
      rw [hb, ge] at q'; cases q'
    · exact (gk b hb).symm.trans q
  · rw [upd_ne (Ne.symm M.dne)]
    exact I1.hok.fresh M.new
end
end L2
namespace DL
open PySem PySem.Spec PyProof.Rows L2
/-- a new thing that never changes -/
theorem new_o {K : Kt} {c : Bas} {S : Sto} {p : Addr} {o : HO} (hnt : ∀ ps, o ≠ .tbl ps) (ok : Sok K c S) (hp : c.H p = none) :
    Step c ⟨upd c.F p o, c.ι, upd c.H p o⟩ ∧ Sok K ⟨upd c.F p o, c.ι, upd c.H p o⟩ S ∧ Same c.F (upd c.F p o) := by
  have hF : c.F p = none := by
    cases q : c.F p with
    | none => rfl
    | some o => rw [ok.f p o q] at hp; cases hp
  have hι : p ∉ c.ι := fun hm => by
    obtain ⟨n, hn, e⟩ := List.mem_iff_getElem.mp hm
    have hn' : n < S.length := by rw [← ok.len]; exact hn
    obtain ⟨ws, h1, _⟩ := ok.s n p S[n] (by rw [List.getElem?_eq_getElem hn, e]) (List.getElem?_eq_getElem hn')
    rw [hp] at h1; cases h1
  have kp : ∀ a u, c.H a = some u → upd c.H p o a = some u := fun a u e => by
    rw [upd_ne (ne_of_none e hp)]
    exact e
  have kF : Same c.F (upd c.F p o) := fun a u e => by
    rw [upd_ne (ne_of_none e hF)]
    exact e
  refine ⟨⟨kF, fun a u e => ?_, fun a u e _ _ => kp a u e, fun a n => ?_, List.prefix_rfl, fun _ h => .inl h, tab_all kp⟩, ⟨fun a u e => ?_, ok.nd, ok.len, fun a ha => ?_, fun n a es h1 h2 => ?_, nt_upd ok.nt hnt⟩, kF⟩
  · by_cases hb : a = p
    · subst hb; exact .inr hp
    · have e' : upd c.F p o a = some u := e
      rw [upd_ne hb] at e'
      exact .inl e'
  · cases q : c.H a with
    | none => exact absurd q n
    | some u =>
      show upd c.H p o a ≠ none
      rw [kp a u q]
      exact fun z => by cases z
  · have e' : upd c.F p o a = some u := e
    by_cases hb : a = p
    · subst hb
      rw [upd_same] at e'
      cases e'
      exact upd_same
    · rw [upd_ne hb] at e'
      exact kp a u (ok.f a u e')
  · have hb : a ≠ p := fun z => hι (z ▸ ha)
    show upd c.F p o a = none
    rw [upd_ne hb]
    exact ok.fi a ha
  · obtain ⟨ws, g1, g2, g3⟩ := ok.s n a es h1 h2
    exact ⟨ws, kp a _ g1, g2, RpAll.mono kF List.prefix_rfl _ _ g3⟩
/-- raise C(e, ..) -/
def sRaise (c : Str) (ns : List Str) (l : EL) : SS := fun env S => (l env S).bindS env fun ds S => if ds.length = ns.length then .ok (.rs ⟨c, ns, ds⟩ env) S else .stuck
section
variable {X : Cx} {K : Kt} {B : Bg} {C cc cda fI : Addr}
theorem s_raise {e : Expr} {es : List Expr} {l : EL} {p pos pos2 : Pos} {k : Nat} {x : Str} {ns : List Str} (hK : kt X = K) (hc : X.calm = true) (tk : Takes X B.W) (T : PySem.SupX.SupC X.prog X.K X.mg C cc cda) (F : InitF X.prog X.w X.K X.mg C fI ns) (hr : Room k X.A) (hg : Gl X x) (hm : X.mg x = some (.ref C)) (ha : PA X (e :: es) (tA K B l))
    (hdb : (x == ("__debug__" : Str)) = false := by decide) (he : starEach (e :: es) X.env = (false, eval e X.env) :: starEach es X.env := by rfl) (hpl : (backTo pos (starEach es X.env)).any (·.1) = false := by rfl) :
    PS X (.Raise (some (.Call (.Name x p) (e :: es) [] pos)) none pos2) (tK K B (sRaise x ns l)) := (ps_raise hc tk (pmk_sup T F hr ha hg hm hdb he hpl)).imp fun E σ H ⟨F, ι, S, env, st, o, S', e, q⟩ => by
  subst hK
  refine ⟨F, ι, S, env, st, (bindS_post e q).imp fun ds S1 e vs c1 s1 o1 r1 => ?_⟩
  split at e
  · rename_i hl
    cases e
    have st1 := st.step s1 o1
    refine ⟨by rw [r1.len, hl], fun d hd => ?_⟩
    obtain ⟨s2, o2, kF⟩ := new_o (o := .xd (ns.zip vs)) (fun ps z => by cases z) o1 hd
    exact q σ ⟨_, _, _⟩ _ d (st1.step s2 o2) ⟨C, vs, rfl, hm, upd_same, hl.symm, RpAll.mono kF List.prefix_rfl _ _ r1⟩
  · cases e
end
end DL

set_option maxHeartbeats 4000000
/-! E24: try: .. except C as n: .., where what is caught may be kept. -/
namespace L2
open PySem PySem.Spec PyProof.Rows DL
section
variable {X : Cx} {pins : List (Addr × Obj)} {σ : St} {H : Hp} {s : Shared}
/-- an object of ours, untracked as yet, is tracked from now on -/
theorem Inv.track {a : Addr} {o : HO} (I : Inv X pins σ H s) (n0 : X.s_0.heap.get? a = none) (na : H a = none) (nL : a ≠ X.env.locals) (nC : ∀ x c, X.env.cells.lookup x = some c → c ≠ a) (nP : ∀ p ∈ X.pn ++ pins, p.1 ≠ a)
    (new : ObjOk X.prog X.w (upd H a o) s.heap a o) : Inv X pins σ (upd H a o) s := by
  have at_ : ∀ {b : Addr} {u : HO}, H b = some u → upd H a o b = some u := fun {b u} e => by
    rw [upd_ne (ne_of_none e na)]
    exact e
  have non : ∀ {b : Addr}, b ≠ a → H b = none → upd H a o b = none := fun {b} hb e => by
    rw [upd_ne hb]
    exact e
  have b' := I.base
  refine ⟨I.ok, I.os, I.bare, ⟨b'.keep, b'.slot, fun b u e n hx => non (fun z => ?_) (b'.free b u e n hx), b'.there, fun b xs e => at_ (b'.tups b xs e), fun b u v e => at_ (b'.frzs b u v e), fun b ps e => ?_⟩, I.loc, I.cell,
    non (Ne.symm nL) I.free, fun x c e => non (nC x c e) (I.freeC x c e), fun p hp => ?_, fun b u e => ?_, I.len⟩
  · rw [z, n0] at e
    cases e
  · obtain ⟨more, e2⟩ := b'.tbls b ps e
    exact ⟨more, at_ e2⟩
  · obtain ⟨e1, e2, e3⟩ := I.pin p hp
    exact ⟨e1, non (nP p hp) e2, e3⟩
  · by_cases hb : b = a
    · subst hb
      rw [upd_same] at e
      cases e
      exact new
    · rw [upd_ne hb] at e
      exact (I.hok b u e).stay (fun _ _ _ q => q) (fun c q => at_ q) fun c xs q => at_ q
theorem exD_ok {P : Program} {w : World} {H : Hp} {h : Heap} {a C dx : Addr} {oe : Obj} {vs : Array Value} (e : h.get? a = some oe) (hc : oe.cls = .ref C) (hd : oe.dict = some dx) (hf : oe.data = .fields vs) : ObjOk P w H h a (ExD C dx a) :=
  ⟨⟨oe, vs, e, hc, hd, hf⟩, ⟨oe, e⟩, fun _ _ ⟨o, v, q, r⟩ k => ⟨o, v, k o q, r⟩⟩
/-- what a clause 'except x as n' wishes, that takes all that comes and keeps it -/
def wKp (K : PySem.W.Frag) (c : Value) (i : Nat) (ts : Addr → TS) (D : Ends) : WX := fun cls d σ H =>
  ∃ C dx, cls = .ref C ∧ d = some dx ∧ PySem.W.exmOne K cls c = some true ∧
    ∀ a, H a = none → ts a { nx := fun σ' H' => D.nx (σ'.set i none) H', rt := D.rt, bk := fun σ' H' => D.bk (σ'.set i none) H', ct := fun σ' H' => D.ct (σ'.set i none) H' } (σ.set i (some (.ref a))) (upd H a (ExD C dx a))
end
section
variable {X : Cx} {x n : Str} {c : Value} {i : Nat} {body suite : List Stmt} {b0 : Stmt} {np pos pos' : Pos} {tb : WX → TS} {ts : Addr → TS}
theorem ps_try_keep (hs : X.stack = X.env :: X.outer) (hf : X.env.frame = some X.env.locals) (hN : X.N.Nodup) (hi : X.N[i]? = some n) (hln : X.env.kindOf n = some .local) (hc : Names X x c) (hxx : X.ex = [])
    (hb : ∀ (W : WX) (pn : List (Addr × Obj)) (xe : Value → Shared → Prop), Takes (X.tr pn xe) W → PassesOwn (model X.prog X.w) X.A X.env xe → PSs (X.tr pn xe) body (tb W))
    (hsu : ∀ (a : Addr) (pn : List (Addr × Obj)), PSs (X.suite a pn) (b0 :: suite) (ts a)) :
    PS X (.Try body [.ExceptHandler (some (.Name x np)) (some n) (b0 :: suite) pos'] [] [] pos) (fun D σ H => tb (wKp X.K c i ts D) D σ H) := by
  constructor
  intro pins s σ H D I hyp
  have ok := I.ok
  have frm : X.A.frames = some (X.env :: X.outer) := by rw [← hs]; exact ok.frames
  -- what is raised in the body comes here
  have catch_ : ∀ u s1, XE (X.tr (X.pn ++ pins) (fun e s1 => wpAny (model X.prog X.w) X.A (noteFrame e X.env) (fun _ s2 => wpAny (model X.prog X.w) X.A (setFlight e none) (fun _ s3 =>
      wpAny (model X.prog X.w) X.A (handleBy e X.env [.ExceptHandler (some (.Name x np)) (some n) (b0 :: suite) pos']) (SP X pins D) X.xe s3) X.xe s2) X.xe s1)) (wKp X.K c i ts D) u s1 →
      wpAny (model X.prog X.w) X.A (noteFrame u X.env) (fun _ s2 => wpAny (model X.prog X.w) X.A (setFlight u none) (fun _ s3 =>
        wpAny (model X.prog X.w) X.A (handleBy u X.env [.ExceptHandler (some (.Name x np)) (some n) (b0 :: suite) pos']) (SP X pins D) X.xe s3) X.xe s2) X.xe s1 := by
    rintro u s1 ⟨a, G, sI, pj, σ1, H1, cls, d, rfl, J0, nb, up, sky, na, hos, bare, C, dx, rfl, rfl, hex, want⟩
    have J : Inv X pins σ1 H1 sI := J0.ofTry ok
    -- a stands on no ground, so it is none of what is known
    have offG : G.get? a = none := by rcases sky with z | z | z <;> exact z.2.1
    have frStk : ∀ b, b ∈ frs X.stack → b = X.env.locals ∨ b ∈ X.fs := fun b hm => by
      rcases List.mem_cons.mp (J.stkSub b hm) with z | z
      · exact .inl z
      · exact .inr z
    have kn : ∀ b o, sI.heap.get? b = some o → b ∉ frs X.stack → b ≠ a := fun b o e hm z => by
      rw [z] at e hm
      have e2 := nb a o e hm
      rw [offG] at e2
      cases e2
    have sky1 : Sky G (X.env :: X.outer) a (Zc (.ref C) (some dx)) X.env.locals s1.heap := by rw [← hs]; exact sky
    refine Sky.land Zc.steady frm hf sky1 fun h2 fly2 up2 => ?_
    have J2 : Inv X pins σ1 H1 { s1 with heap := h2 } := J.landed nb fly2.1 (up.trans up2) hos bare
    -- the clause's test
    have nofr : ∀ {h : Heap} {o : Obj} {vs : Array Value}, h.FunFrames G (X.env :: X.outer) → h.get? a = some o → o.data = .fields vs → a ∉ frs (X.env :: X.outer) := fun {h o vs} ff e dd hm => by
      obtain ⟨_, o', e', hnf⟩ := ff.mem hm
      have ee := Option.some.inj (e.symm.trans e')
      subst ee
      exact hnf _ dd
    obtain ⟨o2, v2, g2, z2, d2⟩ := fly2.there
    have nst := nofr fly2.2.2.1 g2 d2
    have aL : a ≠ X.env.locals := fun z => nst (List.mem_filterMap.mpr ⟨X.env, List.mem_cons_self, by rw [hf, z]⟩)
    have aF : a ∉ X.fs := fun hm => by
      obtain ⟨e, he, q⟩ := List.mem_filterMap.mp hm
      exact nst (List.mem_filterMap.mpr ⟨e, List.mem_cons_of_mem _ he, q⟩)
    have S2 := J2.suite g2 d2 na aL aF
    have ty : PySem.W.Looks (model X.prog X.w) h2 (typeOf (.ref a)) (.ref C) := fun A Q E s k q => wpAny_typeOf_ref (k _ _ g2) (by rw [z2.1]; exact q)
    have fits := PySem.W.exm_one (M := model X.prog X.w) J2.kIn ty hex
    have named : ∀ {Q : Value → Shared → Prop} {E : Value → Shared → Prop}, Q c { s1 with heap := h2 } → wpAny (model X.prog X.w) (X.A.mark (some (.ref a))) (eval (.Name x np) X.env) Q E { s1 with heap := h2 } := fun {Q E} q => by
      obtain ⟨hg, hd, hm | ⟨hm, hv, hnn⟩⟩ := hc
      · exact ld_glob (X := X.suite a ((a, o2) :: (X.pn ++ pins))) S2 hg hm q hd
      · exact ld_blt (X := X.suite a ((a, o2) :: (X.pn ++ pins))) S2 hg hm hv q hnn hd
    refine wpAny_handleBy_cons (codeAny_handlers_test (named (fits.here ?_))) (by intro q; cases q)
    refine codeAny_handlers_suite_as (HandSPX.lands_againZ fly2 fun h3 fly3 up3 => ?_)
    have J3 : Inv X pins σ1 H1 { s1 with heap := h3 } := J.landed nb fly3.1 ((up.trans up2).trans up3) hos bare
    obtain ⟨o3, v3, g3, z3, d3⟩ := fly3.there
    -- from now on the exception is tracked
    have J4 : Inv X pins σ1 (upd H1 a (ExD C dx a)) { s1 with heap := h3 } := by
      refine J3.track ?_ na aL (fun y cc e z => ?_) (fun p hp z => ?_) (exD_ok g3 z3.1 z3.2 d3)
      · cases q : X.s_0.heap.get? a with
        | none => rfl
        | some o =>
          obtain ⟨o', e'⟩ := J.base.there a o q (by rw [hxx]; exact fun z => nomatch z)
          exact absurd rfl (kn a o' e' (fun hm => by rw [hs] at hm; exact nst hm))
      · obtain ⟨w', o, e1, e2⟩ := J3.cell y cc e
        rw [z] at e1
        have ee := Option.some.inj (g3.symm.trans e1)
        rw [← ee, d3] at e2
        cases e2
      · obtain ⟨e1, _, e3, e4, _⟩ := J.pin p hp
        refine kn p.1 p.2 e1 (fun hm => ?_) z
        rcases frStk _ hm with q | q
        · exact e3 q
        · exact e4 q
    have S4 : Inv (X.suite a (X.pn ++ pins)) [] σ1 (upd H1 a (ExD C dx a)) { s1 with heap := h3 } :=
      ⟨ok.suite a _, J4.os, J4.bare, J4.base, J4.loc, J4.cell, J4.free, J4.freeC, fun p hp => J4.pin p (by rw [List.append_nil] at hp; exact hp), J4.hok, J4.len⟩
    have back : ∀ {σ2 : St} {H2 : Hp} {s2 : Shared}, Inv (X.suite a (X.pn ++ pins)) [] σ2 H2 s2 → Inv X pins σ2 H2 s2 := fun {σ2 H2 s2} T =>
      ⟨ok, T.os, T.bare, T.base, T.loc, T.cell, T.free, T.freeC, fun p hp => T.pin p (List.mem_append_left _ hp), T.hok, T.len⟩
    refine store_ok (X := X.suite a (X.pn ++ pins)) (v := .ref a) S4 hN hi (.inl hln) rfl (fun s5 S5 => ?_) (.inr hln)
    have told := (hsu a (X.pn ++ pins)).run [] s5 _ _ _ S5 (want a na)
    refine wpAny_mono told (fun fl s6 q6 => ?_) (fun _ _ z => False.elim z)
    have name_goes : ∀ {σ6 : St} {H6 : Hp} {Q : Shared → Prop}, Inv (X.suite a (X.pn ++ pins)) [] σ6 H6 s6 → (∀ s7, Inv X pins (σ6.set i none) H6 s7 → Q s7) →
        wpAny (model X.prog X.w) X.A (do bindName X.env n .none; unbindBehindTheSuite X.env n pos') (fun _ s7 => Q s7) X.xe s6 := fun {σ6 H6 Q} T q => gone_ok (back T) hN hi hln q
    cases fl with
    | ret u =>
      obtain ⟨v6, σ6, H6, T6, r6, w6⟩ := q6
      exact name_goes T6 fun s7 J7 => ⟨v6, _, H6, J7, r6, w6⟩
    | next =>
      obtain ⟨σ6, H6, T6, w6⟩ := q6
      exact name_goes T6 fun s7 J7 => ⟨_, H6, J7, w6⟩
    | brk =>
      obtain ⟨σ6, H6, T6, w6⟩ := q6
      exact name_goes T6 fun s7 J7 => ⟨_, H6, J7, w6⟩
    | cont =>
      obtain ⟨σ6, H6, T6, w6⟩ := q6
      exact name_goes T6 fun s7 J7 => ⟨_, H6, J7, w6⟩
  have body_ := (hb (wKp X.K c i ts D) (X.pn ++ pins) _ catch_ PassesOwn.looking).run [] s σ H D (I.toTry _) hyp
  refine wpAny_Try_except (wpAny_mono body_ (fun fl s1 q => ?_) fun _ _ z => z)
  cases fl with
  | ret u =>
    obtain ⟨v, σ1, H1, T, r, w1⟩ := q
    exact ⟨v, σ1, H1, T.ofTry ok, r, w1⟩
  | next =>
    obtain ⟨σ1, H1, T, w1⟩ := q
    exact wpAny_execs_nil ⟨σ1, H1, T.ofTry ok, w1⟩
  | brk =>
    obtain ⟨σ1, H1, T, w1⟩ := q
    exact ⟨σ1, H1, T.ofTry ok, w1⟩
  | cont =>
    obtain ⟨σ1, H1, T, w1⟩ := q
    exact ⟨σ1, H1, T.ofTry ok, w1⟩
end
end L2

set_option maxHeartbeats 4000000
/-! E25: try in the data layer; a thing that is called: the name's slot. -/
namespace DL
open PySem PySem.Spec PyProof.Rows L2
abbrev Bg.w (B : Bg) (W : WX) : Bg := ⟨B.toBas, W⟩
theorem Stt.w {K : Kt} {B : Bg} {c : Bas} {S : Sto} {σ : St} {env : Env} {W : WX} (st : Stt K B c S σ env) : Stt K (B.w W) c S σ env := ⟨st.ok, st.env, st.st⟩
theorem Stt.unw {K : Kt} {B : Bg} {c : Bas} {S : Sto} {σ : St} {env : Env} {W : WX} (st : Stt K (B.w W) c S σ env) : Stt K B c S σ env := ⟨st.ok, st.env, st.st⟩
/-- no list of a name's own -/
def noOwn : Option Slot → Bool
  | some (.own _) => false
  | some (.sh _) => true
  | some (.fn _) => true
  | none => true
theorem noOwn_no {env : Env} (h : env.all noOwn = true) {i : Nat} {ds : List D} : env[i]? ≠ some (some (.own ds)) := fun e => by
  have hm := List.mem_of_getElem? e
  have z := List.all_eq_true.mp h _ hm
  cases z
/-- a part of a def that begins at c -/
theorem Stt.here {K : Kt} {B : Bg} {c : Bas} {S : Sto} {σ : St} {env : Env} {W : WX} (st : Stt K B c S σ env) (h : env.all noOwn = true) : Stt K ⟨c, W⟩ c S σ env :=
  ⟨st.ok, ⟨st.env.len, fun i x e => by
    obtain ⟨v, h1, h2⟩ := st.env.at_ i x e
    refine ⟨v, h1, ?_⟩
    cases x with
    | sh d => exact h2
    | fn a => exact h2
    | own ds => exact absurd e (noOwn_no h), fun i j ds es e => absurd e (noOwn_no h)⟩, Step.refl _⟩
theorem Stt.up {K : Kt} {B : Bg} {c c' : Bas} {S' : Sto} {σ : St} {env : Env} {W : WX} (s : Step B.toBas c) (st : Stt K ⟨c, W⟩ c' S' σ env) : Stt K B c' S' σ env :=
  ⟨st.ok, ⟨st.env.len, fun i x e => by
    obtain ⟨v, h1, h2⟩ := st.env.at_ i x e
    refine ⟨v, h1, ?_⟩
    cases x with
    | sh d => exact h2
    | fn a => exact h2
    | own ds =>
      obtain ⟨a, vs, e1, e2, e3, e4, e5, e6, e7⟩ := h2
      refine ⟨a, vs, e1, e2, e3, e4, e5, e6, ?_⟩
      cases q : B.H a with
      | none => rfl
      | some o => exact absurd e7 (s.dom a (by rw [q]; exact fun z => by cases z)), st.env.inj⟩, s.trans st.st⟩
theorem _root_.L2.PSs.ex {X : Cx} {st : List Stmt} {β : Type} {P : β → Prop} {t : β → TS} (h : ∀ b, P b → PSs X st (t b)) : PSs X st (fun E σ H => ∃ b, P b ∧ t b E σ H) := ⟨fun pins s σ H E I ⟨b, hp, q⟩ => (h b hp).run pins s σ H E I q⟩
/-- the clause's suite has ended: its name goes -/
def tryEnd (i : Nat) : Res Out → Res Out
  | .ok (.nx e) S => .ok (.nx (e.set i none)) S
  | .ok (.bk e) S => .ok (.bk (e.set i none)) S
  | .ok (.ct e) S => .ok (.ct (e.set i none)) S
  | .ok (.rt d) S => .ok (.rt d) S
  | .ok (.rs _ _) _ => .stuck
  | .ex _ _ => .stuck
  | .stuck => .stuck
def tryGo (i : Nat) (fits : Str → Bool) (hand : SS) : Res Out → Res Out
  | .ok (.rs x e) S => if fits x.c = true then tryEnd i (hand (e.set i (some (.sh (.exn x.c x.ns x.xs)))) S) else .stuck
  | .ok (.nx e) S => .ok (.nx e) S
  | .ok (.bk e) S => .ok (.bk e) S
  | .ok (.ct e) S => .ok (.ct e) S
  | .ok (.rt d) S => .ok (.rt d) S
  | .ex _ _ => .stuck
  | .stuck => .stuck
/-- try: body / except .. as n: hand, n in slot i; fits: the classes that the clause takes -/
def sTry (i : Nat) (fits : Str → Bool) (body hand : SS) : SS := fun env S => if env.all noOwn = true then tryGo i fits hand (body env S) else .stuck
section
variable {X : Cx} {K : Kt} {B : Bg} {x n : Str} {c : Value} {i : Nat} {body suite : List Stmt} {b0 : Stmt} {np pos pos' : Pos} {fb fh : SS} {fits : Str → Bool}
theorem s_try (hK : kt X = K) (hs : X.stack = X.env :: X.outer) (hf : X.env.frame = some X.env.locals) (hN : X.N.Nodup) (hi : X.N[i]? = some n) (hln : X.env.kindOf n = some .local) (hc : Names X x c) (hxx : X.ex = [])
    (hfit : ∀ (k : Str) (C : Addr), fits k = true → X.mg k = some (.ref C) → PySem.W.exmOne X.K (.ref C) c = some true)
    (hb : ∀ (b : Bas) (W : WX) (pn : List (Addr × Obj)) (xe : Value → Shared → Prop), Step B.toBas b → Takes (X.tr pn xe) W → PassesOwn (model X.prog X.w) X.A X.env xe → PSs (X.tr pn xe) body (tK K ⟨b, W⟩ fb))
    (hsu : ∀ (a : Addr) (pn : List (Addr × Obj)), PSs (X.suite a pn) (b0 :: suite) (tK K B fh)) :
    PS X (.Try body [.ExceptHandler (some (.Name x np)) (some n) (b0 :: suite) pos'] [] [] pos) (tK K B (sTry i fits fb fh)) :=
  (ps_try_keep (tb := fun W E σ H => ∃ b, Step B.toBas b ∧ tK K ⟨b, W⟩ fb E σ H) (ts := fun _ => tK K B fh) hs hf hN hi hln hc hxx (fun W pn xe tk ps => PSs.ex fun b sb => hb b W pn xe sb tk ps) hsu).imp fun E σ H ⟨F, ι, S, env, st, o, S', e, q⟩ => by
  subst hK
  have e : (if env.all noOwn = true then tryGo i fits fh (fb env S) else .stuck) = .ok o S' := e
  by_cases hno : env.all noOwn = true
  rotate_left
  · rw [if_neg hno] at e
    cases e
  rw [if_pos hno] at e
  cases hr : fb env S with
  | stuck => rw [hr] at e; cases e
  | ex x S1 => rw [hr] at e; cases e
  | ok o1 S1 =>
    rw [hr] at e
    refine ⟨⟨F, ι, H⟩, st.st, F, ι, S, env, st.here hno, o1, S1, hr, ?_⟩
    cases o1 with
    | nx e1 => cases e; exact fun σ' c' s a => q σ' c' (s.up st.st) a
    | bk e1 => cases e; exact fun σ' c' s a => q σ' c' (s.up st.st) a
    | ct e1 => cases e; exact fun σ' c' s a => q σ' c' (s.up st.st) a
    | rt d => cases e; exact fun v c' s o r => q v c' (st.st.trans s) o r
    | rs x e1 =>
      have e : (if fits x.c = true then tryEnd i (fh (e1.set i (some (.sh (.exn x.c x.ns x.xs)))) S1) else .stuck) = .ok o S' := e
      by_cases hz : fits x.c = true
      rotate_left
      · rw [if_neg hz] at e
        cases e
      rw [if_pos hz] at e
      intro σ1 c1 cls dx s1 hx
      obtain ⟨C, vs, rfl, hm, hF, hl, hr2⟩ := hx
      refine ⟨C, dx, rfl, rfl, hfit x.c C hz hm, fun a na => ?_⟩
      have s1' := s1.up st.st
      obtain ⟨s2, o2, kF⟩ := new_o (o := ExD C dx a) (fun ps z => by unfold ExD at z; cases z) s1'.ok na
      have hdx : upd c1.F a (ExD C dx a) dx = some (.xd (x.ns.zip vs)) := kF _ _ hF
      have rp : Rp (kt X) (upd c1.F a (ExD C dx a)) c1.ι (.exn x.c x.ns x.xs) (.ref a) := ⟨a, C, dx, vs, rfl, hm, upd_same, hdx, hl, RpAll.mono kF List.prefix_rfl _ _ hr2⟩
      have st2 : Stt (kt X) B ⟨upd c1.F a (ExD C dx a), c1.ι, upd c1.H a (ExD C dx a)⟩ S1 (σ1.set i (some (.ref a))) (e1.set i (some (.sh (.exn x.c x.ns x.xs)))) :=
        let st3 := s1'.step s2 o2
        ⟨st3.ok, st3.env.set_sh i rp, st3.st⟩
      have far : Adv ⟨F, ι, H⟩ ⟨upd c1.F a (ExD C dx a), c1.ι, upd c1.H a (ExD C dx a)⟩ := (s1.st.trans s2).adv
      have gone : ∀ {σ' : St} {c' : Bas} {e3 : Env} {S3 : Sto}, Stt (kt X) B c' S3 σ' e3 → Stt (kt X) B c' S3 (σ'.set i none) (e3.set i none) := fun {σ' c' e3 S3} s => ⟨s.ok, s.env.set_none i, s.st⟩
      cases hr3 : fh (e1.set i (some (.sh (.exn x.c x.ns x.xs)))) S1 with
      | stuck => rw [hr3] at e; cases e
      | ex y S3 => rw [hr3] at e; cases e
      | ok o3 S3 =>
        rw [hr3] at e
        refine ⟨_, _, S1, _, st2, o3, S3, hr3, ?_⟩
        cases o3 with
        | nx e3 => cases e; exact fun σ' c' s a => q _ c' (gone s) (far.trans a)
        | bk e3 => cases e; exact fun σ' c' s a => q _ c' (gone s) (far.trans a)
        | ct e3 => cases e; exact fun σ' c' s a => q _ c' (gone s) (far.trans a)
        | rt d => cases e; exact q
        | rs y e3 => cases e
end
end DL

set_option maxHeartbeats 4000000
/-! E26: a lambda, with a default or none, is made. -/
namespace DL
open PySem PySem.Spec PyProof.Rows L2 LamX
/-- the data of a lambda -/
abbrev fdL (q : Str) (ps : Arguments) (b : Expr) (sc : Scope) (cl : List (Str × Addr)) (dV pm cv ct : Value) : FuncData :=
  { name := "<lambda>", qualname := q, params := ps, body := .expr b, scope := sc, globals := mainGlobals, closure := cl, defaults := dV, kwdefaults := .none, doc := .none, pyModule := pm, annotations := none, code := cv, closureTuple := ct, builtins := builtinsNs }
/-- the tuple of a lambda's defaults -/
abbrev ltupO (us : List Value) : Obj := { cls := .type "tuple", data := .seq us.toArray }
section
variable {X : Cx} {pins : List (Addr × Obj)} {σ : L2.St} {H : Hp} {s : Shared} {c P : Addr} {A : Around} {E : Value → Shared → Prop}
/-- a lambda that was made -/
structure LamMade (X : Cx) (pins : List (Addr × Obj)) (σ : L2.St) (H : Hp) (s : Shared) (P : Addr) (q : Str) (ps : Arguments) (b : Expr) (sc : Scope) (dV : Value) (f c' : Addr) (H1 : Hp) (s' : Shared) : Prop where
  inv : Inv X pins σ H1 s'
  ext : ExtN H H1
  tab : TabS H1 P q
  keep : ∀ a o, s.heap.get? a = some o → a ≠ P → s'.heap.get? a = some o
  obj : ∃ pm ct, s'.heap.get? f = some { cls := .type "function", data := .func (fdL q ps b sc (cloFrom X.env.cells sc.names []) dV pm (.ref c') ct) }
  new : H1 f = none
  nofr : f ∉ frs X.stack
  code : H1 c' = some (CodeO c' q)
  nbig : s.heap.objs.size ≤ f
  old : ∀ a, s.heap.get? a ≠ none → H a = none → H1 a = none
  dom : ∀ a, H a ≠ none → H1 a ≠ none
  oth : ∀ a ps, a ≠ P → H a = some (.tbl ps) → H1 a = some (.tbl ps)
/-- the code object: found in the table, or new -/
theorem code_step {q : Str} {ps : Arguments} {b : Expr} {sc : Scope} {pos : Pos} {fl : Nat} {Q : Value → Shared → Prop} (I : Inv X pins σ H s) (TB : TabB X.base X.mg c P) (hcode : X.env.code = .ref c) (hT : TabS H P q)
    (h : ∀ (c' : Addr) (H1 : Hp) (s' : Shared), Inv X pins σ H1 s' → ExtN H H1 → TabS H1 P q → (∀ a o, s.heap.get? a = some o → a ≠ P → s'.heap.get? a = some o) → H1 c' = some (CodeO c' q) → s.heap.objs.size ≤ s'.heap.objs.size → (∀ a, s.heap.get? a ≠ none → H a = none → H1 a = none) → (∀ a, H a ≠ none → H1 a ≠ none) → (∀ a ps, a ≠ P → H a = some (.tbl ps) → H1 a = some (.tbl ps)) → Q (.ref c') s') :
    wpAny (model X.prog X.w) A (functionCode X.env pos fl "<lambda>" q ps sc (.expr b)) Q E s := by
  obtain ⟨tr, hP, ht, known⟩ := hT
  have hPh : s.heap.get? P = some (PySem.W.tabObj tr) := I.hok P _ hP
  have CH := TB.code.keeps I.bk
  cases am : codeAmong pos tr.toList with
  | some cv =>
    obtain ⟨c', e1, e2⟩ := known pos cv am
    refine wpAny_functionCode_hit hcode (CH.code hPh ht) am ?_
    rw [e1]
    exact h c' H s I (ExtN.refl H) ⟨tr, hP, ht, known⟩ (fun a o e _ => e) e2 (Nat.le_refl _) (fun _ _ n => n) (fun _ n => n) (fun _ _ _ e => e)
  | none =>
    refine wpAny_functionCodeX hcode (CH.code hPh ht) (CH.tab hPh) am fun c' h' tk grown big small _ rec tbl _ => ?_
    obtain ⟨c2, oc, vs, t, e2, o1, o2, o3⟩ := rec
    cases e2
    have fresh : H c' = none := I.hok.fresh big
    have J := inv_table (t' := tk) (more := #[rawInt pos.line, rawInt pos.col, .ref c']) I hP (fun a o ha e => grown a o ha e) tbl.2 big ⟨oc, vs, t, o1, o2, o3⟩
    have hE : ExtN H (upd (upd H P (.tbl (tr ++ #[rawInt pos.line, rawInt pos.col, .ref c']))) c' (CodeO c' q)) := fun a o e n => by
      have na : a ≠ P := fun z => by
        rw [z, hP] at e
        exact n tr (Option.some.inj e).symm
      rw [upd_ne (ne_of_none e fresh), upd_ne na]
      exact e
    have hl : (tr ++ #[rawInt pos.line, rawInt pos.col, .ref c']).toList = tr.toList ++ [rawInt pos.line, rawInt pos.col, .ref c'] := by simp
    refine h c' _ _ J hE ⟨_, by rw [upd_ne (ne_of_none hP fresh), upd_same], by rw [hl]; exact PySem.TriplesOk_snoc _ _ _ _ ht, fun p' cv hcv => ?_⟩ (fun a o e na => grown a o na e) upd_same ?_ (fun a na n => ?_) (fun a n => ?_) (fun a us na e => ?_)
    · rw [hl] at hcv
      rcases among_app _ ht hcv with z | z
      · obtain ⟨c0, e1, e3⟩ := known p' cv z
        exact ⟨c0, e1, hE _ _ e3 codeO_ne⟩
      · exact ⟨c', z, upd_same⟩
    · exact Nat.le_trans big (Nat.le_of_lt small)
    · have h1 : a ≠ c' := fun z => by
        cases e : s.heap.get? a with
        | none => exact na e
        | some o =>
          have lt := Heap.lt_size e
          rw [z] at lt
          exact absurd (Nat.lt_of_lt_of_le lt big) (Nat.lt_irrefl _)
      have h2 : a ≠ P := fun z => by
        rw [z, hP] at n
        cases n
      rw [upd_ne h1, upd_ne h2]
      exact n
    · by_cases h1 : a = c'
      · rw [h1, upd_same]
        exact fun z => by cases z
      · rw [upd_ne h1]
        by_cases h2 : a = P
        · rw [h2, upd_same]
          exact fun z => by cases z
        · rw [upd_ne h2]
          exact n
    · rw [upd_ne (ne_of_none e fresh), upd_ne na]
      exact e
theorem lam_tail {q : Str} {ps : Arguments} {b : Expr} {sc : Scope} {pos : Pos} {fl : Nat} {dV : Value} {Q : Value → Shared → Prop} (I : Inv X pins σ H s) (TB : TabB X.base X.mg c P) (hcode : X.env.code = .ref c) (hT : TabS H P q)
    (hfree : ∀ y ∈ sc.names, y.2 = .free → ∃ c, X.env.cells.lookup y.1 = some c)
    (h : ∀ (f c' : Addr) (H1 : Hp) (s' : Shared), LamMade X pins σ H s P q ps b sc dV f c' H1 s' → Q (.ref f) s') :
    wpAny (model X.prog X.w) A (makeTail "<lambda>" q ps (.expr b) sc X.env dV .none none pos fl) Q E s := by
  obtain ⟨bm, ob, b1, b2, b3, b4, b5, b6, b7, b8⟩ := TB.bm.keeps I.bk
  obtain ⟨tr, hP, _⟩ := id hT
  have hPh : s.heap.get? P = some { cls := .none, data := .fields tr } := I.hok P _ hP
  have gP : mainGlobals ≠ P := TB.gP
  have Gs : s.heap.Ns mainGlobals X.mg := I.mod.glob.keeps I.bk
  -- behind the tuple of the closure
  have rest : ∀ (ct : Value) (h1 : Heap), (∀ a o, s.heap.get? a = some o → h1.get? a = some o) → s.heap.objs.size ≤ h1.objs.size →
      wpAny (model X.prog X.w) A (do
        let cd ← functionCode X.env pos fl "<lambda>" q ps sc (.expr b)
        let bi ← builtinsFor X.env.globals X.env.builtins
        let nm ← nsGet X.env.globals "__name__"
        let dc ← (pure Value.none : Sem Value)
        newObj (.type "function") (.func (fdL q ps b sc (cloFrom X.env.cells sc.names []) dV (nm.getD .none) cd ct |> fun fd => { fd with globals := X.env.globals, builtins := bi, doc := dc }))) Q E { s with heap := h1 } := fun ct h1 k1 sz1 => by
    have I1 : Inv X pins σ H { s with heap := h1 } := I.kept k1
    refine wpAny_bind (code_step I1 TB hcode hT fun c' H2 s2 I2 hE hT2 k2 hc' sz2 old2 dom2 oth2 => ?_)
    have G2 : s2.heap.Ns mainGlobals X.mg := I2.mod.glob.keeps I2.bk
    have hg : X.env.globals = mainGlobals := I.ok.glob
    rw [hg]
    refine wpAny_bind (wpAny_builtinsFor G2 b1 b2 (k2 _ _ (k1 _ _ b5) b4) b6 b7 b8 ?_)
    refine wpAny_bind (wpAny_nsGet G2 ?_)
    refine wpAny_bind (wpAny_pure (wpAny_newObj_type ?_ (by size_fits)))
    have fr : H2 s2.heap.objs.size = none := I2.hok.fresh (Nat.le_refl _)
    have big : s.heap.objs.size ≤ s2.heap.objs.size := Nat.le_trans sz1 sz2
    refine h s2.heap.objs.size c' H2 _ ⟨I2.kept fun a o e => Heap.get?_push_of_some _ e, hE, hT2, fun a o e na => Heap.get?_push_of_some _ (k2 a o (k1 a o e) na), ⟨_, ct, Heap.get?_push_size _ rfl⟩, fr, fun z => ?_, hc', big, fun a na n => old2 a (fun z => na (by
      cases q : s.heap.get? a with
      | none => rfl
      | some o =>
        have e := k1 a o q
        rw [show ({ s with heap := h1 } : Shared).heap.get? a = h1.get? a from rfl] at z
        rw [z] at e; cases e)) n, dom2, oth2⟩
    have lt := I2.lt
    rcases List.mem_cons.mp (I2.stkSub _ z) with e | e
    · rw [← e] at lt
      exact Nat.lt_irrefl _ lt
    · exact I2.nofs (Nat.le_refl _) e
  unfold makeTail
  rw [closure_ok hfree]
  refine wpAny_bind (wpAny_pure ?_)
  generalize cloFrom X.env.cells sc.names [] = clo at rest ⊢
  cases clo with
  | nil =>
    simp only [List.isEmpty_nil, if_true]
    exact wpAny_bind (wpAny_pure (rest .none s.heap (fun _ _ e => e) (Nat.le_refl _)))
  | cons y r =>
    simp only [List.isEmpty_cons, Bool.false_eq_true, if_false]
    exact wpAny_bind (wpAny_newTextTuple (rest _ _ (fun _ _ e => Heap.get?_push_of_some _ e) (by rw [Heap.size_push]; omega)))
end
end DL

set_option maxHeartbeats 4000000
/-! E27: a lambda that is called by a def to which it was handed. -/
namespace DL
open PySem PySem.Spec PyProof.Rows L2 LamX
/-- the names of a lambda in a def of the names N: as its own (with defaults), captured ones, globals -/
structure LmS (N : List Str) (sc' sc : Scope) (as : List Str) : Prop where
  kind : sc.kind = .function
  co : sc.isCoroutine = false
  gen : sc.isGenerator = false
  nocell : ∀ y ∈ sc.names, y.2 ≠ .cell
  loc : ∀ y ∈ sc.names, y.2 = .local → y.1 ∈ as
  par : ∀ a ∈ as, sc.names.lookup a = some .local
  far : ∀ a ∈ as, a ∉ N
  free : ∀ y ∈ sc.names, y.2 = .free → sc'.names.lookup y.1 = some .cell ∨ sc'.names.lookup y.1 = some .free
def lmSB (N : List Str) (sc' sc : Scope) (as : List Str) : Bool :=
  decide (sc.kind = .function) && !sc.isCoroutine && !sc.isGenerator && (sc.names.all fun y => !decide (y.2 = .cell)) && (sc.names.all fun y => !decide (y.2 = .local) || as.contains y.1) && (as.all fun a => decide (sc.names.lookup a = some .local)) && (as.all fun a => !N.contains a) &&
    (sc.names.all fun y => !decide (y.2 = .free) || (decide (sc'.names.lookup y.1 = some .cell) || decide (sc'.names.lookup y.1 = some .free)))
theorem lmS_by {N : List Str} {sc' sc : Scope} {as : List Str} (h : lmSB N sc' sc as = true) : LmS N sc' sc as := by
  unfold lmSB at h
  simp only [Bool.and_eq_true, Bool.or_eq_true, Bool.not_eq_true', decide_eq_true_eq, decide_eq_false_iff_not, List.all_eq_true] at h
  obtain ⟨⟨⟨⟨⟨⟨⟨h1, h2⟩, h3⟩, h4⟩, h5⟩, h6⟩, h7⟩, h8⟩ := h
  refine ⟨h1, h2, h3, h4, fun y hy e => ?_, h6, ?_, fun y hy e => ?_⟩
  · simpa using (h5 y hy).resolve_left fun n => n e
  · intro a ha
    simpa using h7 a ha
  · exact (h8 y hy).resolve_left fun n => n e
theorem LmS.has {X : Cx} {sc : Scope} {as : List Str} (L : LmS X.N X.env.scope sc as) (ok : X.Ok) : ∀ y ∈ sc.names, y.2 = .free → ∃ c, X.env.cells.lookup y.1 = some c := fun y hy e => ok.has _ (L.free y hy e)
section
variable {X : Cx} {pins : List (Addr × Obj)} {σ : L2.St} {H HZ : Hp} {s s1 : Shared} {f c' : Addr} {sc : Scope} {as : List Str}
/-- the captured cells are cells of the maker -/
theorem clo_of (I : Inv X pins σ H s) (L : LmS X.N X.env.scope sc as) {y : Str} {cc : Addr} (e : (cloFrom X.env.cells sc.names []).lookup y = some cc) : X.env.cells.lookup y = some cc := by
  rcases cloFrom_mem (PySem.mem_of_lookup e) with hm | ⟨h1, h2⟩
  · cases hm
  · obtain ⟨c1, q⟩ := L.has I.ok _ h1 rfl
    have q' : X.env.cells.lookup y = some c1 := q
    have e2 : cc = (X.env.cells.lookup y).getD 0 := h2
    rw [q'] at e2
    rw [q', e2]
    rfl
theorem clo_has (I : Inv X pins σ H s) (L : LmS X.N X.env.scope sc as) {y : Str} (e : sc.names.lookup y = some .free) : ∃ cc, (cloFrom X.env.cells sc.names []).lookup y = some cc :=
  mem_lookup (cloFrom_has (cells := X.env.cells) (acc := []) (PySem.mem_of_lookup e))
/-- the lambda's body begins -/
theorem lam_begin {A : Around} {outer : List PySem.Env} {E : XK} {h1 : Heap} {tk : Nat} {m : Str → Option Value} (I : Inv X pins σ H s) (L : LmS X.N X.env.scope sc as) (e0 : Env0 X.prog X.w X.K X.mg X.base A outer s1 HZ) (hd : A.handled = none)
    (un : Un (frs X.stack) [] H HZ s.heap s1.heap) (hns : h1.Ns s1.heap.objs.size m) (kp : ∀ b o, s1.heap.get? b = some o → h1.get? b = some o) :
    Inv (lamCx X A outer s1 HZ E sc f c') [] σ HZ { s1 with heap := h1, toks := tk } := by
  -- a captured cell lies where it lay
  have cellAt : ∀ {cc : Addr} {v : Option Value}, H cc = none → s.heap.IsCell cc v → h1.IsCell cc v := fun {cc v} n ⟨o, ho, hdat⟩ => by
    obtain ⟨sl, q⟩ := un.any ho n (fun z => nomatch z)
    exact ⟨_, kp _ _ q, hdat⟩
  have noex : ∀ b : Addr, b ∉ (lamCx X A outer s1 HZ E sc f c').ex := fun b z => nomatch (show b ∈ ([] : List Addr) from z)
  have okL : (lamCx X A outer s1 HZ E sc f c').Ok := {
    mod := e0.mod
    kind := L.kind
    glob := rfl
    blt := rfl
    above := Nat.le_refl _
    inj := fun y z cc e1 e2 => I.ok.inj y z cc (clo_of I L e1) (clo_of I L e2)
    has := fun y hy => by
      have hy' : sc.names.lookup y = some .cell ∨ sc.names.lookup y = some .free := hy
      rcases hy' with q | q
      · exact absurd rfl (L.nocell _ (PySem.mem_of_lookup q))
      · exact clo_has I L q
    cab := fun y cc z _ => Bool.noConfusion (show false = true from z)
    hd := fun _ => hd
    frames := Around.frames_deeper e0.frames
    stk := .inr ⟨rfl, rfl⟩
    exf := fun b z => absurd z (noex b)
    bs := e0.bs
    bsz := e0.bsz
    noex := fun b _ _ => noex b
    exfs := fun b z => absurd z (noex b)
    funs := e0.funs
    frf := e0.frf }
  exact {
    ok := okL
    os := rfl
    bare := e0.bare
    base := Un.kept kp
    loc := ⟨m, hns, fun i y v e1 e2 e3 => by
      have e3' : Vis sc y := e3
      rcases e3' with q | q | q
      · exact absurd (List.mem_of_getElem? e1) (L.far _ (L.loc _ (PySem.mem_of_lookup q) rfl))
      · exact absurd rfl (L.nocell _ (PySem.mem_of_lookup q))
      · have fr := L.free _ (PySem.mem_of_lookup q) rfl
        obtain ⟨m0, _, look⟩ := I.loc
        obtain ⟨u, r, w⟩ := look i y v e1 e2 (.inr fr)
        obtain ⟨cc, hcc⟩ := clo_has I L q
        refine ⟨u, r, .inr ⟨.inr q, cc, hcc, ?_⟩⟩
        have hc2 := clo_of I L hcc
        rcases w with ⟨k1, _⟩ | ⟨_, c3, k2, z⟩
        · have k1' : X.env.scope.names.lookup y = some .local := k1
          rcases fr with k3 | k3 <;> exact absurd ((show X.env.scope.names.lookup y = _ from k3).symm.trans k1') (by simp)
        · have ee := Option.some.inj (hc2.symm.trans k2)
          rw [ee]
          rw [ee] at hc2
          exact cellAt (I.freeC y _ hc2) z⟩
    cell := fun y cc e => by
      obtain ⟨w', z⟩ := I.cell y cc (clo_of I L e)
      exact ⟨w', cellAt (I.freeC y cc (clo_of I L e)) z⟩
    free := e0.hok.fresh (Nat.le_refl _)
    freeC := fun y cc e => by
      obtain ⟨v, o, ho, _⟩ := I.cell y cc (clo_of I L e)
      exact un.free cc o ho (I.freeC y cc (clo_of I L e)) (fun z => nomatch z)
    pin := fun q hq => nomatch (show q ∈ ([] : List (Addr × Obj)) from hq)
    hok := e0.hok.kept kp
    len := I.len }
/-- the lambda is called with nothing -/
theorem call_lam {A : Around} {outer : List PySem.Env} {q : Str} {ps : Arguments} {b : Expr} {dV pm ct : Value} {k : Nat} {E : XK} {Q : VK} {tb : TE} (I : Inv X pins σ H s) (L : LmS X.N X.env.scope sc as)
    (hf : s.heap.get? f = some { cls := .type "function", data := .func (fdL q ps b sc (cloFrom X.env.cells sc.names []) dV pm (.ref c') ct) }) (nf : H f = none) (fr : f ∉ frs X.stack) (hq : q = X.env.qual ++ "<lambda>")
    (bd : ∃ bs : List (Str × Value), bs.map (·.1) = as ∧ BindsTo s1 (fdL q ps b sc (cloFrom X.env.cells sc.names []) dV pm (.ref c') ct) ⟨[], []⟩ bs)
    (e0 : Env0 X.prog X.w X.K X.mg X.base A outer s1 HZ) (hr : Room (k + 1) A) (un : Un (frs X.stack) [] H HZ s.heap s1.heap) (hc : HZ c' = some (CodeO c' q))
    (hb : Room k (A.deeper (lamEnv X sc s1.heap.objs.size f c')) → PE (lamCx X A outer s1 HZ E sc f c') b tb) (ht : tb σ HZ Q) :
    codeAny (model X.prog X.w) A (.call (.ref f) ⟨[], []⟩) (CR (L2.CX X.prog X.w) outer X.prog X.w HZ s1 Q E) s1 := by
  subst hq
  have f1 := un.keep f _ hf nf fr (fun z => nomatch z)
  obtain ⟨⟨oc, vs, t, hoc, hdc, hvc⟩, _, _⟩ := e0.hok c' _ hc
  obtain ⟨bs, hbs, bt⟩ := bd
  have lim : s1.heap.NoLimit := e0.mod.nolimit.keeps fun b o e => (e0.bs b o e).1
  refine PySem.W.kla_callFunE hr.depth f1 rfl L.co L.gen rfl ⟨c', oc, vs, t, rfl, hoc, hdc, hvc⟩ (bt _ _ _ _ ?_)
  refine wpAny_newFunctionEnv L.nocell (fun y hy => L.par _ (by rw [← hbs]; exact List.mem_map_of_mem hy)) (fun h1 hns hsb => ⟨lim.fresh _ hsb, ?_⟩) L.kind
  have kp : ∀ b o, s1.heap.get? b = some o → h1.get? b = some o := fun b o e => hsb.extBut b o (Nat.ne_of_lt (Heap.lt_size e)) (Heap.get?_push_of_some _ e)
  have J := lam_begin (f := f) (c' := c') (E := E) (tk := s1.toks + bs.length) I L e0 hr.hd un hns kp
  show codeAny _ _ (.expr b (lamEnv X sc s1.heap.objs.size f c')) _ _
  refine PySem.W.kla_codeExpr (wpAny_mono ((hb (hr.deeper _)).run [] _ _ HZ Q J ht) (fun v s' z => ?_) fun e s' z => z)
  obtain ⟨w', H', J', rv, z⟩ := z
  exact ⟨w', H', J'.os, J'.bare, J'.base, J'.hok, rv, z⟩
end
end DL

set_option maxHeartbeats 4000000
/-! E28: x(lambda: e), x a def that calls what it is handed. -/
namespace DL
open PySem PySem.Spec PyProof.Rows L2 LamX
/-- the parameters of a lambda: none, or one with a default -/
def LamD (X : Cx) (ps : Arguments) (as : List Str) : Prop :=
  (as = [] ∧ ps.kwonlyargs = [] ∧ defaultsOf ps X.env = ([], []) ∧ ∀ (q : Str) (b : Expr) (sc : Scope) (cl : List (Str × Addr)) (pm cv ct : Value), bindArgs (fdL q ps b sc cl .none pm cv ct) ⟨[], []⟩ = pure []) ∨
  (∃ (a : Str) (e : Expr) (v : V), as = [a] ∧ ps.kwonlyargs = [] ∧ defaultsOf ps X.env = ([eval e X.env], []) ∧ PE X e (tC v) ∧
    ∀ (q : Str) (b : Expr) (sc : Scope) (cl : List (Str × Addr)) (T : Addr) (pm cv ct u : Value), ∃ k, bindArgs (fdL q ps b sc cl (.ref T) pm cv ct) ⟨[], []⟩ = seqItems? (.ref T) >>= k ∧ k (some #[u]) = pure [(a, u)])
section
variable {X : Cx} {pins : List (Addr × Obj)} {σ : L2.St} {H : Hp} {s : Shared} {c P : Addr}
/-- what a lambda is behind its making -/
structure Lam (X : Cx) (pins : List (Addr × Obj)) (σ : L2.St) (H : Hp) (q : Str) (b : Expr) (sc : Scope) (ps : Arguments) (as : List Str) (P f c' : Addr) (H1 : Hp) (s' : Shared) : Prop where
  inv : Inv X pins σ H1 s'
  ext : ExtN H H1
  tab : TabS H1 P q
  new : H1 f = none
  nofr : f ∉ frs X.stack
  code : H1 c' = some (CodeO c' q)
  dom : ∀ a, H a ≠ none → H1 a ≠ none
  oth : ∀ a ps, a ≠ P → H a = some (.tbl ps) → H1 a = some (.tbl ps)
  obj : ∃ dV pm ct, s'.heap.get? f = some { cls := .type "function", data := .func (fdL q ps b sc (cloFrom X.env.cells sc.names []) dV pm (.ref c') ct) } ∧
    ∀ (s1 : Shared) (HZ : Hp), Un (frs X.stack) [] H1 HZ s'.heap s1.heap → ∃ bs : List (Str × Value), bs.map (·.1) = as ∧ BindsTo s1 (fdL q ps b sc (cloFrom X.env.cells sc.names []) dV pm (.ref c') ct) ⟨[], []⟩ bs
theorem lam_eval {ps : Arguments} {b : Expr} {sc : Scope} {as : List Str} {lpos : Pos} {q : Str} {Q : Value → Shared → Prop} (I : Inv X pins σ H s) (TB : TabB X.base X.mg c P) (hcode : X.env.code = .ref c) (hq : q = X.env.qual ++ "<lambda>") (hT : TabS H P q)
    (hfree : ∀ y ∈ sc.names, y.2 = .free → ∃ c, X.env.cells.lookup y.1 = some c) (hD : LamD X ps as)
    (h : ∀ (f c' : Addr) (H1 : Hp) (s' : Shared), Lam X pins σ H q b sc ps as P f c' H1 s' → Q (.ref f) s') :
    wpAny (model X.prog X.w) X.A (eval (.Lambda ps b sc lpos) X.env) Q X.xe s := by
  subst hq
  rw [arm_eval_Lambda]
  rcases hD with ⟨ha, hkw, hd, hbd⟩ | ⟨a, e, v, ha, hkw, hd, he, hbd⟩
  · rw [hd]
    show wpAny _ _ (evalAll [] >>= fun dv => holding dv (evalAllOpt []) >>= fun kdv => makeFunction "<lambda>" (X.env.qual ++ "<lambda>") ps (.expr b) sc X.env dv kdv [] lpos lpos.line) _ _ s
    refine wpAny_bind (wpAny_pure (wpAny_bind (wpAny_holding (wpAny_pure ?_))))
    rw [makeFunction_eq]
    simp only [List.zip_nil_right, List.filterMap_nil, List.isEmpty_nil, if_true, pure_bind]
    refine lam_tail I TB hcode hT hfree fun f c' H1 s' M => h f c' H1 s' ?_
    obtain ⟨pm, ct, ho⟩ := M.obj
    exact ⟨M.inv, M.ext, M.tab, M.new, M.nofr, M.code, M.dom, M.oth, .none, pm, ct, ho, fun s1 HZ _ => ⟨[], ha.symm, BindsTo.of_eq (hbd _ _ _ _ _ _ _)⟩⟩
  · rw [hd]
    show wpAny _ _ (evalAll [eval e X.env] >>= fun dv => holding dv (evalAllOpt []) >>= fun kdv => makeFunction "<lambda>" (X.env.qual ++ "<lambda>") ps (.expr b) sc X.env dv kdv [] lpos lpos.line) _ _ s
    refine wpAny_bind ?_
    show wpAny _ _ (eval e X.env >>= fun v => holding [v] (evalAll []) >>= fun r => pure (v :: r)) _ _ s
    refine wpAny_bind (thn (he.run pins s σ H (fun x H' => x = v ∧ H' = H) I ⟨rfl, rfl⟩) fun u s1 ⟨x, H', I1, ru, ex, eH⟩ => ?_)
    subst eH
    refine wpAny_bind (wpAny_holding (wpAny_pure (wpAny_pure ?_)))
    refine wpAny_bind (wpAny_holding (wpAny_pure ?_))
    rw [makeFunction_eq]
    simp only [List.zip_nil_right, List.filterMap_nil, List.isEmpty_nil, List.isEmpty_cons, Bool.false_eq_true, if_true, if_false, pure_bind]
    refine wpAny_bind (wpAny_newTextTuple ?_)
    have I2 : Inv X pins σ H' { s1 with heap := s1.heap.push { cls := .type "tuple", data := .seq [u].toArray } } := I1.kept fun b o e => Heap.get?_push_of_some _ e
    have hT1 : (s1.heap.push { cls := .type "tuple", data := .seq [u].toArray }).get? s1.heap.objs.size = some { cls := .type "tuple", data := .seq [u].toArray } := Heap.get?_push_size _ rfl
    have fresh : H' s1.heap.objs.size = none := I1.hok.fresh (Nat.le_refl _)
    have nfr : s1.heap.objs.size ∉ frs X.stack := fun z => by
      have lt := I1.lt
      rcases List.mem_cons.mp (I1.stkSub _ z) with e | e
      · rw [← e] at lt
        exact Nat.lt_irrefl _ lt
      · exact I1.nofs (Nat.le_refl _) e
    refine lam_tail I2 TB hcode hT hfree fun f c' H1 s' M => h f c' H1 s' ?_
    obtain ⟨pm, ct, ho⟩ := M.obj
    have nP : s1.heap.objs.size ≠ P := fun z => by
      obtain ⟨tr, hP, _⟩ := hT
      rw [← z, fresh] at hP
      cases hP
    have hT2 := M.keep _ _ hT1 nP
    have n2 := M.old s1.heap.objs.size (by
      show (s1.heap.push { cls := .type "tuple", data := .seq [u].toArray }).get? s1.heap.objs.size ≠ none
      rw [hT1]; exact fun z => by cases z) fresh
    refine ⟨M.inv, M.ext, M.tab, M.new, M.nofr, M.code, M.dom, M.oth, _, pm, ct, ho, fun s2 HZ un => ⟨[(a, u)], ha.symm, ?_⟩⟩
    have hT3 := un.keep _ _ hT2 n2 nfr (fun z => nomatch z)
    obtain ⟨k, e1, e2⟩ := hbd (X.env.qual ++ "<lambda>") b sc (cloFrom X.env.cells sc.names []) s1.heap.objs.size pm (.ref c') ct u
    intro M' A' E' Q' hQ
    rw [e1]
    refine wpAny_bind (wpAny_seqItems hT3 rfl ?_)
    show wpAny M' A' (k (some [u].toArray)) Q' E' s2
    rw [show ([u].toArray : Array Value) = #[u] from rfl, e2]
    exact wpAny_pure hQ
/-- x(), x what the def was handed -/
theorem pe_ask {q : Str} {b : Expr} {sc : Scope} {ps : Arguments} {as Ng : List Str} {qg a : Str} {sg : Scope} {f c' g : Addr} {cdg : Value} {k i : Nat} {Eg : XK} {pn : List (Addr × Obj)} {xe : Value → Shared → Prop} {W : WX} {t : XK → TE} {p1 p2 : Pos} {H1 : Hp} {s' : Shared}
    (M : Lam X pins σ H q b sc ps as P f c' H1 s') (hq : q = X.env.qual ++ "<lambda>") (L : LmS X.N X.env.scope sc as)
    (tk : Takes ((cxOf (L2.CX X.prog X.w) X.prog X.w X.K X.mg X.base Ng qg sg g cdg X.A X.stack s' H1 Eg).tr pn xe) W) (hr : Room (k + 1) (X.A.deeper (envOfC qg sg s'.heap.objs.size g cdg)))
    (hbody : ∀ (A : Around) (outer : List PySem.Env) (s : Shared) (H : Hp) (E : XK), Room k (A.deeper (lamEnv X sc s.heap.objs.size f c')) → PE (lamCx X A outer s H E sc f c') b (t E))
    (hN : Ng[i]? = some a) (hv : Vis sg a) (hd : (a == ("__debug__" : Str)) = false := by decide) (hcd : (a == ("__classdict__" : Str)) = false := by decide) :
    PE ((cxOf (L2.CX X.prog X.w) X.prog X.w X.K X.mg X.base Ng qg sg g cdg X.A X.stack s' H1 Eg).tr pn xe) (.Call (.Name a p1) [] [] p2)
      (fun σZ HZ Q => σZ[i]? = some (some (.ref f)) ∧ HZ c' = some (CodeO c' q) ∧ t (fun cls d H' => W cls d σZ H') σ HZ Q) := by
  constructor
  intro pinsZ sZ σZ HZ Q IZ hyp
  obtain ⟨hs, hc, ht⟩ := hyp
  have rd := (pe_var (X := (cxOf (L2.CX X.prog X.w) X.prog X.w X.K X.mg X.base Ng qg sg g cdg X.A X.stack s' H1 Eg).tr pn xe) (pos := p1) (i := i) hN hv hd hcd).run pinsZ sZ σZ HZ (fun v H2 => v = .ref f ∧ H2 = HZ) IZ ⟨.ref f, hs, rfl, rfl⟩
  refine wpAny_Call_Name_kw (thn rd fun u s1 ⟨v, H2, I1, r1, ev, eH⟩ => ?_)
  subst ev
  subst eH
  obtain rfl : u = Value.ref f := r1
  obtain ⟨dV, pm, ct, ho, hbd⟩ := M.obj
  have un : Un (frs X.stack) [] H1 H2 s'.heap s1.heap := I1.base
  have f1 := un.keep f _ ho M.new M.nofr (fun z => nomatch z)
  refine PySem.W.callWith_F0 ⟨_, _, _, _, f1⟩ ?_
  have run := call_lam (E := fun cls d H' => W cls d σZ H') (Q := Q) (k := k) (tb := t (fun cls d H' => W cls d σZ H')) M.inv L ho M.new M.nofr hq (hbd s1 H2 un) I1.env0 hr un hc (fun hr2 => hbody _ _ s1 H2 _ hr2) ht
  refine wpAny_call (codeAny_mono run fun r s2 hr2 => ?_)
  cases r with
  | error e => exact tk e s2 (XE.of_call I1 (fun _ _ _ z => z) hr2)
  | ok fl =>
    cases fl with
    | ret u => exact I1.after hr2
    | next => exact False.elim hr2
    | brk => exact False.elim hr2
    | cont => exact False.elim hr2
end
theorem _root_.L2.PE.ex {X : Cx} {e : Expr} {β : Type} {t : β → TE} (h : ∀ b, PE X e (t b)) : PE X e (fun σ H Q => ∃ b, t b σ H Q) := ⟨fun pins s σ H Q I ⟨b, q⟩ => (h b).run pins s σ H Q I q⟩
/-- what is called is the thing f: its reading act -/
def askGo (f : Addr) (act : Sto → Res D) (S : Sto) : Option (Option Slot) → Res D
  | some (some (.fn a)) => if a = f then act S else .stuck
  | some (some (.sh _)) => .stuck
  | some (some (.own _)) => .stuck
  | some none => .stuck
  | none => .stuck
def eAsk (i : Nat) (f : Addr) (act : Sto → Res D) : EE := fun env S => askGo f act S env[i]?
def outD : Res Out → Res D
  | .ok (.rt d) S => .ok d S
  | .ok (.nx _) S => .ok .non S
  | .ok (.rs x _) S => .ex x S
  | .ok (.bk _) _ => .stuck
  | .ok (.ct _) _ => .stuck
  | .ex _ _ => .stuck
  | .stuck => .stuck
/-- the def, handed the thing f whose reading is act -/
def runF (N : Nat) (b : Addr → (Sto → Res D) → SS) (f : Addr) (act : Sto → Res D) : Sto → Res D := fun S => outD (b f act (some (.fn f) :: List.replicate (N - 1) none) S)
/-- x(lambda: e) -/
def eHeard (ψ : (Sto → Res D) → Sto → Res D) (fE : EE) : EE := fun env S => if env.all noOwn = true then ψ (fun S' => fE env S') S else .stuck
/-- the body of a def that calls its one parameter -/
def HeardR (P : Program) (w : World) (K : PySem.W.Frag) (mg : Str → Option Value) (base : Heap) (k : Nat) (qual a : Str) (st : Stmt) (N : List Str) (g : Addr) (bh : Addr → (Sto → Res D) → SS) : Prop :=
  ∀ (cdv : Value) (A : Around) (outer : List PySem.Env) (s : Shared) (H : Hp) (E : XK) (B : Bg) (fa : Addr) (act : Sto → Res D), B.W = (fun cls d _ H' => E cls d H') → Room k (A.deeper (envOfC qual (defScope st) s.heap.objs.size g cdv)) →
    Takes (cxOf (L2.CX P w) P w K mg base N qual (defScope st) g cdv A outer s H E) B.W →
    PassesOwn (model P w) (cxOf (L2.CX P w) P w K mg base N qual (defScope st) g cdv A outer s H E).A (cxOf (L2.CX P w) P w K mg base N qual (defScope st) g cdv A outer s H E).env (cxOf (L2.CX P w) P w K mg base N qual (defScope st) g cdv A outer s H E).xe →
    (∀ (b : Bas) (W : WX) (pn : List (Addr × Obj)) (xe : Value → Shared → Prop) (p1 p2 : Pos), Step B.toBas b → Takes ((cxOf (L2.CX P w) P w K mg base N qual (defScope st) g cdv A outer s H E).tr pn xe) W →
      PE ((cxOf (L2.CX P w) P w K mg base N qual (defScope st) g cdv A outer s H E).tr pn xe) (.Call (.Name a p1) [] [] p2) (tD ⟨K, mg⟩ ⟨b, W⟩ (eAsk 0 fa act))) →
    PSs (cxOf (L2.CX P w) P w K mg base N qual (defScope st) g cdv A outer s H E) (defBody st) (tK ⟨K, mg⟩ B (bh fa act))
/-- a lambda's making, as a step -/
theorem lam_step {H H1 : Hp} {P : Addr} {q : Str} {F : Hp} {ι : List Addr} {S : Sto} {K : Kt} (ok : Sok K ⟨F, ι, H⟩ S) (ext : ExtN H H1) (hq : q = lamQ) (tab : TabS H1 P q) (dom : ∀ a, H a ≠ none → H1 a ≠ none) (oth : ∀ a ps, a ≠ P → H a = some (.tbl ps) → H1 a = some (.tbl ps)) :
    Step ⟨F, ι, H⟩ ⟨F, ι, H1⟩ ∧ Sok K ⟨F, ι, H1⟩ S := by
  refine ⟨⟨Same.refl _, fun _ _ h => .inl h, fun a o e _ n => ext a o e n, dom, List.prefix_rfl, fun _ h => .inl h, fun P2 q2 t e2 => ?_⟩, ⟨fun a o e => ?_, ok.nd, ok.len, ok.fi, fun n a ds h1 h2 => ?_, ok.nt⟩⟩
  · by_cases hp : P2 = P
    · rw [hp, e2, ← hq]
      exact tab
    · obtain ⟨ps, t1, t2, t3⟩ := t e2
      refine ⟨ps, oth P2 ps hp t1, t2, fun pos cv hc => ?_⟩
      obtain ⟨cc, c1, c2⟩ := t3 pos cv hc
      exact ⟨cc, c1, ext _ _ c2 codeO_ne⟩
  · exact ext a o (ok.f a o e) fun ps z => ok.nt a ps (by rw [← z]; exact e)
  · obtain ⟨vs, h3, h4, h5⟩ := ok.s n a ds h1 h2
    exact ⟨vs, ext a _ h3 (fun ps z => by cases z), h4, h5⟩
end DL

set_option maxHeartbeats 4000000
/-! E29: x(lambda: e), in the data layer. -/
namespace DL
open PySem PySem.Spec PyProof.Rows L2 LamX
section
variable {X : Cx} {pins : List (Addr × Obj)} {σ : L2.St} {H : Hp} {s : Shared} {c P : Addr} {K : Kt} {B : Bg}
theorem code_stay {b b' : Bas} {c' : Addr} {q : Str} {S : Sto} (s : Step b b') (ok : Sok K b S) (h : b.H c' = some (CodeO c' q)) : b'.H c' = some (CodeO c' q) := by
  refine s.fr c' _ h (fun hm => ?_) codeO_ne
  obtain ⟨n, hn, e⟩ := List.mem_iff_getElem.mp hm
  have hn' : n < S.length := by rw [← ok.len]; exact hn
  obtain ⟨vs, h1, _⟩ := ok.s n c' S[n] (by rw [List.getElem?_eq_getElem hn, e]) (List.getElem?_eq_getElem hn')
  rw [h] at h1
  exact codeO_lst (Option.some.inj h1)
theorem d_ask {q : Str} {b : Expr} {sc : Scope} {ps : Arguments} {as Ng : List Str} {qg a : Str} {sg : Scope} {f c' g : Addr} {cdg : Value} {k : Nat} {Eg : XK} {pn : List (Addr × Obj)} {xe : Value → Shared → Prop} {W : WX} {p1 p2 : Pos} {H1 : Hp} {s' : Shared} {F : Hp} {ι : List Addr} {S : Sto} {env : Env} {fE : EE} {bb : Bas}
    (M : Lam X pins σ H q b sc ps as P f c' H1 s') (hq : q = X.env.qual ++ "<lambda>") (L : LmS X.N X.env.scope sc as)
    (tk : Takes ((cxOf (L2.CX X.prog X.w) X.prog X.w X.K X.mg X.base Ng qg sg g cdg X.A X.stack s' H1 Eg).tr pn xe) W) (hr : Room (k + 1) (X.A.deeper (envOfC qg sg s'.heap.objs.size g cdg)))
    (hbody : ∀ (b0 : Bas) (A : Around) (outer : List PySem.Env) (s : Shared) (H : Hp) (E : XK), Room k (A.deeper (lamEnv X sc s.heap.objs.size f c')) → Takes (lamCx X A outer s H E sc f c') (fun cls d _ H' => E cls d H') → PE (lamCx X A outer s H E sc f c') b (tD K ⟨b0, fun cls d _ H' => E cls d H'⟩ fE))
    (hN : Ng[0]? = some a) (hv : Vis sg a) (st0 : Stt K B ⟨F, ι, H1⟩ S σ env) (hno : env.all noOwn = true) (sb : Step ⟨F, ι, H1⟩ bb)
    (hd : (a == ("__debug__" : Str)) = false := by decide) (hcd : (a == ("__classdict__" : Str)) = false := by decide) :
    PE ((cxOf (L2.CX X.prog X.w) X.prog X.w X.K X.mg X.base Ng qg sg g cdg X.A X.stack s' H1 Eg).tr pn xe) (.Call (.Name a p1) [] [] p2) (tD K ⟨bb, W⟩ (eAsk 0 f (fun S => fE env S))) :=
  (pe_ask (t := fun E σ H Q => ∃ b0, tD K ⟨b0, fun cls d _ H' => E cls d H'⟩ fE σ H Q) (i := 0) M hq L tk hr (fun A outer s H E hr2 => PE.ex fun b0 => hbody b0 A outer s H E hr2 (takes_of rfl rfl rfl rfl)) hN hv hd hcd).imp fun σZ HZ Q ⟨F2, ι2, S2, envZ, st, z⟩ => by
  have z : Post (askGo f (fun S => fE env S) S2 envZ[0]?) _ _ := z
  cases hs : envZ[0]? with
  | none => rw [hs] at z; exact z.elim
  | some y =>
    cases y with
    | none => rw [hs] at z; exact z.elim
    | some y =>
      cases y with
      | sh d => rw [hs] at z; exact z.elim
      | own ds => rw [hs] at z; exact z.elim
      | fn a0 =>
        rw [hs] at z
        have zz : Post (if a0 = f then fE env S2 else .stuck) _ _ := z
        by_cases ha : a0 = f
        rotate_left
        · rw [if_neg ha] at zz
          exact zz.elim
        rw [if_pos ha] at zz
        subst ha
        obtain ⟨v, h1, h2⟩ := st.env.at_ 0 _ hs
        have h2 : v = .ref a0 := h2
        subst h2
        have all : Step ⟨F, ι, H1⟩ ⟨F2, ι2, HZ⟩ := sb.trans st.st
        refine ⟨h1, code_stay all st0.ok M.code, ⟨F2, ι2, HZ⟩, F2, ι2, S2, env, (st0.step all st.ok).here hno, ?_⟩
        refine Post.impE zz (fun d S' r => r) fun x S' r => ?_
        intro cc cls dx s2 hx
        exact r cc cls dx (st.step s2.st s2.ok) hx
theorem startF_ok {c : Bas} {W : WX} {S : Sto} {N : List Str} {f : Addr} (ok : Sok K c S) : Stt K ⟨c, W⟩ c S (L2.start N [.ref f]) (some (.fn f) :: List.replicate (N.length - 1) none) := by
  have e : L2.start N [.ref f] = some (.ref f) :: List.replicate (N.length - 1) none := rfl
  rw [e]
  refine ⟨ok, ⟨by simp, fun i x h => ?_, fun i j ds es h1 => ?_⟩, Step.refl c⟩
  · cases i with
    | zero =>
      cases h
      exact ⟨.ref f, rfl, rfl⟩
    | succ i =>
      rw [List.getElem?_cons_succ, List.getElem?_replicate] at h
      split at h <;> cases h
  · cases i with
    | zero => cases h1
    | succ i =>
      rw [List.getElem?_cons_succ, List.getElem?_replicate] at h1
      split at h1 <;> cases h1
/-- x(lambda: e) -/
theorem d_heard {x a : Str} {st : Stmt} {N : List Str} {g : Addr} {fd : FuncData} {k : Nat} {bh : Addr → (Sto → Res D) → SS} {ψ : (Sto → Res D) → Sto → Res D} {ps : Arguments} {b : Expr} {sc : Scope} {as : List Str} {fE : EE} {p lpos pos : Pos}
    (hK : kt X = K) (F : Fun X.K x x st g fd) (Sg : FnScope N [a] (defScope st)) (hN : N[0]? = some a) (hv : Vis (defScope st) a) (HR : HeardR X.prog X.w X.K X.mg X.base k x a st N g bh) (hψ : ∀ f act S, ψ act S ≠ .stuck → runF N.length bh f act S = ψ act S)
    (tk : Takes X B.W) (hr : Room (k + 2) X.A) (hg : Gl X x) (hm : X.mg x = some (.ref g)) (hb : L2.Binds X.K fd [a] [])
    (TB : TabB X.base X.mg c P) (hcode : X.env.code = .ref c) (htab : TabS B.H P lamQ) (hq : lamQ = X.env.qual ++ "<lambda>") (L : LmS X.N X.env.scope sc as) (hD : LamD X ps as)
    (hbody : ∀ (b0 : Bas) (A : Around) (outer : List PySem.Env) (s : Shared) (H : Hp) (E : XK) (f c' : Addr), Room k (A.deeper (lamEnv X sc s.heap.objs.size f c')) → Takes (lamCx X A outer s H E sc f c') (fun cls d _ H' => E cls d H') →
      PE (lamCx X A outer s H E sc f c') b (tD K ⟨b0, fun cls d _ H' => E cls d H'⟩ fE))
    (hdb : (x == ("__debug__" : Str)) = false := by decide) (hd : (a == ("__debug__" : Str)) = false := by decide) (hcd : (a == ("__classdict__" : Str)) = false := by decide) :
    PE X (.Call (.Name x p) [.Lambda ps b sc lpos] [] pos) (tD K B (eHeard ψ fE)) := by
  subst hK
  constructor
  rintro pins s σ H Q I ⟨F0, ι, S, env, st0, z⟩
  have z : Post (if env.all noOwn = true then ψ (fun S' => fE env S') S else .stuck) _ _ := z
  by_cases hno : env.all noOwn = true
  rotate_left
  · rw [if_neg hno] at z
    exact z.elim
  rw [if_pos hno] at z
  have hT : TabS H P lamQ := st0.st.tab P lamQ (fun _ => htab) rfl
  refine wpAny_Call_Name_kw (ld_glob I hg hm ?_ hdb)
  refine PySem.W.callWith_K (h₀ := X.base) I.ok.mod.kin F.kp ?_ (by rfl) (by rfl)
  show wpAny _ _ (spliced ((false, eval (.Lambda ps b sc lpos) X.env) :: backTo pos (starEach [] X.env))) _ _ s
  refine Calls.spliced_cons (lam_eval I TB hcode hq hT (L.has I.ok) hD fun f c' H1 s' M => ?_)
  refine Calls.spliced_nil ⟨M.inv.kIn, ?_⟩
  obtain ⟨sp1, ok1⟩ := lam_step st0.ok M.ext rfl M.tab M.dom M.oth
  have st1 := st0.step sp1 ok1
  obtain ⟨oc, od, kV, doc, pm, an, cdv, ct, osl, efd, lk, hcg⟩ := F.ex
  subst efd
  have rc : codeAny (model X.prog X.w) X.A (.call (.ref g) ⟨[.ref f], []⟩) (CR (L2.CX X.prog X.w) X.stack X.prog X.w H1 s' Q (fun cls d H' => B.W cls d σ H')) s' := by
    refine run_ofS (N := N) (ps := [a]) (us := [.ref f]) (vs := [.ref f]) lk hcg Sg hr M.inv.env0 (hb s' [.ref f] M.inv.kIn rfl) (.cons rfl .nil) rfl fun hr' => ?_
    have hr2 : Room (k + 1) (X.A.deeper (envOfC x (defScope st) s'.heap.objs.size g cdv)) := hr'
    have body := HR cdv X.A X.stack s' H1 (fun cls d H' => B.W cls d σ H') ⟨⟨F0, ι, H1⟩, fun cls d _ H' => B.W cls d σ H'⟩ f (fun S => fE env S) rfl (hr2.mono (Nat.le_succ k)) (takes_of rfl rfl rfl rfl) (passes_of rfl)
      (fun bb W pn xe p1 p2 sb tk2 => d_ask M hq L tk2 hr2 (fun b0 A outer s H E r t => hbody b0 A outer s H E f c' r t) hN hv st1 hno sb hd hcd)
    refine ⟨_, body, F0, ι, S, _, startF_ok ok1, ?_⟩
    have e := hψ f (fun S => fE env S) S (fun q => by
      have z2 : Post (ψ (fun S' => fE env S') S) _ _ := z
      rw [q] at z2
      exact z2.elim)
    have e : outD (bh f (fun S => fE env S) (some (.fn f) :: List.replicate (N.length - 1) none) S) = ψ (fun S => fE env S) S := e
    cases ho : bh f (fun S => fE env S) (some (.fn f) :: List.replicate (N.length - 1) none) S with
    | stuck =>
      rw [ho] at e
      rw [← e] at z
      exact z.elim
    | ex y S2 =>
      rw [ho] at e
      rw [← e] at z
      exact z.elim
    | ok o S2 =>
      rw [ho] at e
      rw [← e] at z
      refine ⟨o, S2, rfl, ?_⟩
      cases o with
      | bk e2 => exact z.elim
      | ct e2 => exact z.elim
      | nx e2 => exact fun σ' cc s2 _ => z .non cc (sp1.trans s2.st) s2.ok rfl
      | rt d => exact fun v cc s2 o2 r2 => z v cc (sp1.trans s2) o2 r2
      | rs y e2 => exact fun σ' cc cls dx s2 hx => z cc cls dx (st1.step s2.st s2.ok) hx
  refine wpAny_call (codeAny_mono rc fun r s2 hq2 => ?_)
  cases r with
  | error e => exact tk e s2 (XE.of_call M.inv (fun _ _ _ w => w) hq2)
  | ok fl =>
    cases fl with
    | ret u => exact M.inv.after hq2
    | next => exact False.elim hq2
    | brk => exact False.elim hq2
    | cont => exact False.elim hq2
end
end DL

set_option maxHeartbeats 4000000
/-! E30: what is asked of an exception that was kept; x in l, l.index(x). -/
namespace DL
open PySem PySem.Spec PyProof.Rows L2
/-! ### the classes -/
/-- an exception class of the name c at C, over bm -/
def ExI (K : PySem.W.Frag) (c : Str) (C : Addr) (bm : List Value) : Prop :=
  ∃ (q : Str) (N : Addr) (bs : List Value) (sn : List Str) (sub : List Value) (ab : Bool) (col : Option Bool) (dd : Option Addr) (k0 k1 k2 k3 k5 : Option Value), K.lookup C = some (excClassObj c q C N bs bm true sn sub ab col dd k0 k1 k2 k3 k5 "ValueError.__new__")
abbrev veT : List Value := [.type "ValueError", .type "Exception", .type "BaseException", .type "object"]
section
variable {K : PySem.W.Frag} {c c' : Str} {C C' CE : Addr} {bm bm' : List Value}
theorem ExI.cls (h : ExI K c C bm) : ∃ cd, PySem.W.clsIn K C = some cd ∧ cd.mro = .ref C :: bm ∧ cd.hasDict = true := by
  obtain ⟨q, N, bs, sn, sub, ab, col, dd, k0, k1, k2, k3, k5, e⟩ := h
  refine ⟨{ name := c, bases := bs, mro := .ref C :: bm, ns := N, qualname := q, hasDict := true, slotNames := sn, subclasses := sub, abstract := ab, collection := col, hasDel := false }, ?_, rfl, rfl⟩
  unfold PySem.W.clsIn
  rw [e] <;> rfl
theorem ExI.ty (h : ExI K c C bm) : PySem.W.typeIn K (.ref C) = some (.type "type") := by
  obtain ⟨q, N, bs, sn, sub, ab, col, dd, k0, k1, k2, k3, k5, e⟩ := h
  show (K.lookup C).map (·.cls) = _
  rw [e] <;> rfl
theorem ExI.dct (h : ExI K c C bm) : PySem.W.hasDictIn K C = true := by
  obtain ⟨cd, e, _, hd⟩ := h.cls
  unfold PySem.W.hasDictIn
  rw [e]
  simpa using hd
theorem ExI.sub (h : ExI K c C bm) (b : Value) : PySem.W.subIn K (.ref C) b = some ((Value.ref C :: bm).contains b) := by
  obtain ⟨cd, e, hm, _⟩ := h.cls
  show PySem.W.mroIn K C b = _
  unfold PySem.W.mroIn
  rw [e, Option.bind_some, hm, if_neg (show ¬ ((Value.ref C :: bm).isEmpty = true) from Bool.false_ne_true)]
theorem ExI.ne (h : ExI K c C bm) (h' : ExI K c' C' bm') (n : c ≠ c') : C ≠ C' := fun z => by
  subst z
  obtain ⟨q, N, bs, sn, sub, ab, col, dd, k0, k1, k2, k3, k5, e⟩ := h
  obtain ⟨q', N', bs', sn', sub', ab', col', dd', k0', k1', k2', k3', k5', e'⟩ := h'
  have e2 := e.symm.trans e'
  simp only [Option.some.injEq, Obj.mk.injEq, Data.cls.injEq, ClassData.mk.injEq] at e2
  exact n e2.2.2.1.1
/-- isinstance, by names -/
theorem kit_exc {mg : Str → Option Value} (g : mg c = some (.ref C)) (g' : mg c' = some (.ref C')) (h : ExI K c C (.ref CE :: veT)) (h' : ExI K c' C' (.ref CE :: veT)) (hE : ExI K "CountError" CE veT) (n : c' ≠ "CountError") :
    PySem.W.kitOne K (.ref C) (.ref C') = some (c == c') := by
  unfold PySem.W.kitOne
  by_cases e : c = c'
  · subst e
    rw [g] at g'
    cases g'
    rw [if_pos (by simp)]
    simp
  · have ne := h.ne h' e
    have nE : C' ≠ CE := h'.ne hE n
    rw [if_neg (by simpa using ne)]
    obtain ⟨cd, hc, _⟩ := h'.cls
    show (if ((PySem.W.clsIn K C').isSome && PySem.W.typeIn K (.ref C') == some (.type "type")) = true then PySem.W.subIn K (.ref C) (.ref C') else none) = _
    rw [if_pos (by rw [hc, h'.ty]; rfl), h.sub]
    have e1 : (c == c') = false := by simpa using e
    rw [e1]
    simp [ne.symm, nE]
theorem exm_exc (h : ExI K c C (.ref CE :: veT)) (hE : ExI K "CountError" CE veT) : PySem.W.exmOne K (.ref C) (.ref CE) = some true := by
  refine PySem.W.exm_ref ?_ hE.dct hE.ty ?_
  · rw [hE.sub]
    simp
  · rw [h.sub]
    simp
end
end DL
namespace DL
open PySem PySem.Spec PyProof.Rows L2
/-! ### x in l -/
def okS (x : D) : Bool := pl x && SeqAt.shaped (toPy x)
def oIn : Op2 := fun x y S => match y with
  | .lst ds => if okS x = true ∧ okS (.lst ds) = true then .ok (.bl (ds.any fun z => eqD z x)) S else .stuck
  | _ => .stuck
def oNotIn : Op2 := fun x y S => match y with
  | .lst ds => if okS x = true ∧ okS (.lst ds) = true then .ok (.bl (!(ds.any fun z => eqD z x))) S else .stuck
  | _ => .stuck
theorem okS_iff {x : D} (h : okS x = true) : pl x = true ∧ SeqAt.shaped (toPy x) = true := by
  have h' : (pl x && SeqAt.shaped (toPy x)) = true := h
  rwa [Bool.and_eq_true] at h'
theorem any_toPy (x : D) : ∀ ds : List D, ((toPyAll ds).any fun z => PyData.eqv z (toPy x)) = ds.any fun z => eqD z x
  | [] => rfl
  | d :: ds => by
    show (PyData.eqv (toPy d) (toPy x) || (toPyAll ds).any _) = (eqD d x || ds.any _)
    rw [any_toPy x ds]
    rfl
section
variable {X : Cx} {K : Kt} {B : Bg} {a b : Expr} {f g : EE} {pos : Pos}
theorem od_in : OpD K (rInD K.fr) oIn := by
  intro B c S S' x y dx dy d ok hx hy e Q q
  unfold oIn at e
  split at e
  · rename_i ds
    split at e
    · rename_i hc
      cases e
      obtain ⟨h1, h2⟩ := okS_iff hc.1
      obtain ⟨h3, h4⟩ := okS_iff hc.2
      refine ⟨_, toPyAll ds, hx.dp ok h1, hy.dp ok h3, h2, h4, ?_⟩
      rw [any_toPy]
      exact q _ c (Step.refl c) ok rfl
    · cases e
  · cases e
theorem od_notin : OpD K (rNotInD K.fr) oNotIn := by
  intro B c S S' x y dx dy d ok hx hy e Q q
  unfold oNotIn at e
  split at e
  · rename_i ds
    split at e
    · rename_i hc
      cases e
      obtain ⟨h1, h2⟩ := okS_iff hc.1
      obtain ⟨h3, h4⟩ := okS_iff hc.2
      refine ⟨_, toPyAll ds, hx.dp ok h1, hy.dp ok h3, h2, h4, ?_⟩
      rw [any_toPy]
      exact q _ c (Step.refl c) ok rfl
    · cases e
  · cases e
theorem c_in (hu : X.A.units + 65 < cLine) (ha : PE X a (tB (kt X) B f)) (hb : PE X b (tB (kt X) B g)) (hm : behindInMarks .In b = false := by rfl) : PE X (.Compare a [.In] [b] pos) (tD (kt X) B (eBin oIn f g)) := d_cmp (op_inD hu) od_in ha hb hm
theorem q_in (hu : X.A.units + 65 < cLine) (ha : PE X a (tB (kt X) B f)) (hb : PE X b (tB (kt X) B g)) (hm : behindInMarks .In b = false := by rfl) : PT X (.Compare a [.In] [b] pos) (tT (kt X) B (eTst (eBin oIn f g))) := t_cmp (op_inD hu) od_in ha hb hm
theorem c_notin (hu : X.A.units + 65 < cLine) (ha : PE X a (tB (kt X) B f)) (hb : PE X b (tB (kt X) B g)) (hm : behindInMarks .NotIn b = false := by rfl) : PE X (.Compare a [.NotIn] [b] pos) (tD (kt X) B (eBin oNotIn f g)) := d_cmp (op_notInD hu) od_notin ha hb hm
theorem q_notin (hu : X.A.units + 65 < cLine) (ha : PE X a (tB (kt X) B f)) (hb : PE X b (tB (kt X) B g)) (hm : behindInMarks .NotIn b = false := by rfl) : PT X (.Compare a [.NotIn] [b] pos) (tT (kt X) B (eTst (eBin oNotIn f g))) := t_cmp (op_notInD hu) od_notin ha hb hm
end
/-! ### l.index(x) -/
def oIdx : Op2 := fun x y S => match x with
  | .lst ds => if okS y = true ∧ okS (.lst ds) = true ∧ (ds.any fun z => eqD z y) = true then .ok (.int (ds.findIdx fun z => eqD z y : Nat)) S else .stuck
  | _ => .stuck
def eIdx (o f : EE) : EE := fun env S => ((o env S).bind fun x S => (f env S).bind fun y S => oIdx x y S).noex
section
variable {X : Cx} {K : Kt} {B : Bg} {o e : Expr} {fo f : EE} {apos pos : Pos}
theorem d_idx (hK : kt X = K) (hu : X.A.units + 65 < cLine) (ho : PE X o (tB K B fo)) (he : PE X e (tB K B f)) (hbase : attributeBase o "index" X.env (eval o X.env) = eval o X.env := by rfl)
    (hs : starEach [e] X.env = (false, eval e X.env) :: starEach [] X.env := by rfl) (hline : (apos.endLine == pos.line) = true := by rfl)
    (hfew : ((backTo pos (starEach [e] X.env)).all (fun x => !x.1) && (backToKw pos (keywordEach [] X.env)).all (fun x => x.1.isSome) && decide ([e].length + ([] : List Keyword).length + (if ([] : List Keyword).isEmpty then 0 else 1) < 30)) = true := by rfl) :
    PE X (.Call (.Attribute o "index" apos) [e] [] pos) (tD K B (eIdx fo f)) := by
  subst hK
  refine (pe_bm PySem.F.plainAttrs_list PySem.F.slot_list_index (by first | exact PySem.F.type_list_index | exact ToBytesX.type_index) (mt_indexD hu) ho (pa_cons he pa_nil hs) hbase hfew hline hs (by rfl)).imp fun σ H Q ⟨F, ι, S, env, st, z⟩ => ?_
  obtain ⟨d, S', ez, q⟩ := Post.noex z
  obtain ⟨x, S1, e1, ez⟩ := Res.bind_ok ez
  obtain ⟨y, S2, e2, ez⟩ := Res.bind_ok ez
  refine ⟨F, ι, S, env, st, Post.of_ok e1 fun v c1 s1 o1 r1 => ?_⟩
  unfold oIdx at ez
  split at ez
  rotate_left
  · cases ez
  rename_i ds _
  split at ez
  rotate_left
  · cases ez
  rename_i hc
  cases ez
  obtain ⟨h1, h2⟩ := okS_iff hc.1
  obtain ⟨h3, h4⟩ := okS_iff hc.2.1
  have hd1 := r1.dp o1 h3
  have hv : ∃ p xs, v = .ref p ∧ SqL X.K c1.H p xs := by
    rcases r1 with h | ⟨es, ee, p, vs, h, k, _⟩
    · obtain ⟨p, vs, h, k, _⟩ := h
      exact ⟨p, vs, h, o1.f.seq k⟩
    · exact ⟨p, vs, h, SqL.of k⟩
  obtain ⟨p, xs, ev, hp⟩ := hv
  subst ev
  refine ⟨.inl ⟨rfl, xs, hp⟩, ?_⟩
  refine ⟨c1.F, c1.ι, S1, env, st.step s1 o1, Post.of_ok e2 fun w c2 s2 o2 r2 => ?_⟩
  have hlt : ds.findIdx (fun z => eqD z y) < ds.length := List.findIdx_lt_length_of_exists (by simpa using hc.2.2)
  have mp : ∀ l : List D, toPyAll l = l.map toPy := fun l => by
    induction l with
    | nil => rfl
    | cons z l ih => show toPy z :: toPyAll l = _; rw [ih]; rfl
  refine ⟨p, w, toPy y, toPyAll ds, ds.findIdx (fun z => eqD z y), toPy ds[ds.findIdx (fun z => eqD z y)], rfl, rfl, (r1.step s2).dp o2 h3, r2.dp o2 h1, h4, h2, ?_, ?_, fun m z' hm hz' => ?_, q _ c2 (s1.trans s2) o2 rfl⟩
  · rw [mp, List.getElem?_map, List.getElem?_eq_getElem hlt]
    rfl
  · exact List.findIdx_getElem (xs := ds) (p := fun z => eqD z y) (w := hlt)
  · rw [mp, List.getElem?_map, List.getElem?_eq_getElem (Nat.lt_trans hm hlt)] at hz'
    cases hz'
    have n := List.not_of_lt_findIdx (p := fun z => eqD z y) (xs := ds) hm
    have n2 : eqD ds[m] y = false := by simpa using n
    exact n2
/-! ### isinstance(e, C), e.f, e an exception that was kept -/
def isXGo (L : List Str) (y : Str) : D → Sto → Res D
  | .exn c _ _, S => if L.contains c = true then .ok (.bl (c == y)) S else .stuck
  | _, _ => .stuck
/-- isinstance(e, y), e of one of the classes L -/
def eIsX (L : List Str) (y : Str) (f : EE) : EE := fun env S => ((f env S).bind fun d S => isXGo L y d S).noex
def fldGo (L : List Str) (n : Str) : D → Sto → Res D
  | .exn c ns xs, S => if L.contains c = true then (match List.lookup n (ns.zip xs) with | some d => .ok d S | none => .stuck) else .stuck
  | _, _ => .stuck
/-- e.n, e of one of the classes L -/
def eFld (L : List Str) (n : Str) (f : EE) : EE := fun env S => ((f env S).bind fun d S => fldGo L n d S).noex
/-- what the class at C must say -/
structure ExG (K : PySem.W.Frag) (C : Addr) : Prop where
  cls : (PySem.W.clsIn K C).isSome = true
  ga : PySem.W.findIn K (.ref C) "__getattribute__" = some (some (.builtin "BaseException.__getattribute__"))
  gg : PySem.W.findIn K (.ref C) "__getattr__" = some none
  sub : PySem.W.subIn K (.ref C) (.type "BaseException") = some true
  ha : PySem.W.findIn K (.ref C) "__class__" = some (some (.builtin "object.__class__"))
  hn : PySem.W.specialIn K (.builtin "object.__class__") "__get__" = some (some (.builtin "getset_descriptor.__get__"))
  ht : PySem.W.takesIn K (.builtin "object.__class__") = some true
  hm : PySem.W.mroIn K C (.type "object") = some true
  hd : PySem.W.hasDictIn K C = true
theorem inst_of {X : Cx} {pins : List (Addr × Obj)} {σ : L2.St} {H : Hp} {s : Shared} {a C dx : Addr} {fs : List (Str × V)} (I : Inv X pins σ H s) (ha : H a = some (ExD C dx a)) (hd : H dx = some (.xd fs)) :
    ∃ (oe od : Obj) (mA : Str → Option Value), PySem.W.InstAt s.heap a oe C (some od) ∧ (∀ f, RelO (fs.lookup f) (mA f)) ∧ ∀ f : Str, PySem.W.lookIn f od = some (mA f) := by
  have h1 : ObjOk X.prog X.w H s.heap a (.ext fun h => ∃ (oe : Obj) (vs : Array Value), h.get? a = some oe ∧ oe.cls = .ref C ∧ oe.dict = some dx ∧ oe.data = .fields vs) := I.hok a _ ha
  obtain ⟨⟨oe, vs, e1, e2, e3, e4⟩, _, _⟩ := h1
  have h2 : ObjOk X.prog X.w H s.heap dx (.xd fs) := I.hok dx _ hd
  obtain ⟨mA, hns, rel⟩ := h2
  obtain ⟨od, ho, hl⟩ := lookIn_ns hns
  exact ⟨oe, od, mA, ⟨e1, e2, by unfold PySem.W.notCls; rw [e4] <;> rfl, by rw [e3]; exact ho⟩, rel, hl⟩
/-- isinstance(e, c), e an exception that was kept -/
def rIsX (K : PySem.W.Frag) : List V → Hp → VK → Prop := fun xs H Q => ∃ (a C dx Y : Addr) (fs : List (Str × V)) (b : Bool), xs = [.ref a, .ref Y] ∧ H a = some (ExD C dx a) ∧ H dx = some (.xd fs) ∧ ExG K C ∧ PySem.W.kitOne K (.ref C) (.ref Y) = some b ∧ Q (.bl b) H
theorem call_isX {X : Cx} : CallR X (.builtin "isinstance") (rIsX X.K) := by
  intro pins s σ H xs us Q I r h
  obtain ⟨a, C, dx, Y, fs, b, rfl, ha, hd, G, e, q⟩ := h
  cases r with
  | cons rx rr =>
    cases rr with
    | cons rt rr =>
      cases rr
      cases rx
      cases rt
      obtain ⟨oe, od, mA, J, _, _⟩ := inst_of I ha hd
      exact PySem.W.kia_one (PySem.W.kitx_exc (od := some od) (ox := oe) G.cls G.ga G.gg G.sub G.ha G.hn G.ht G.hm) I.kIn J e (fun z => nomatch z) fun tk => ⟨.bl b, H, I.kept (t' := tk) fun _ _ z => z, rfl, q⟩
variable {X : Cx} {K : Kt} {B : Bg} {e : Expr} {f : EE} {p p2 pos : Pos} {x y n : Str} {L : List Str} {Y : Addr}
theorem d_isX (hK : kt X = K) (hL : ∀ (k : Str) (C : Addr), L.contains k = true → X.mg k = some (.ref C) → ExG X.K C ∧ PySem.W.kitOne X.K (.ref C) (.ref Y) = some (k == y))
    (hg : Gl X x) (hm : X.mg x = none) (hv : bootBuiltins x = some (.builtin "isinstance")) (hg2 : Gl X y) (hm2 : X.mg y = some (.ref Y)) (he : PE X e (tD K B f))
    (hn : x ≠ "__name__" := by decide) (hdb : (x == ("__debug__" : Str)) = false := by decide) (hdb2 : (y == ("__debug__" : Str)) = false := by decide)
    (hs : starEach [e, .Name y p2] X.env = (false, eval e X.env) :: starEach [.Name y p2] X.env := by rfl) (hs2 : starEach [.Name y p2] X.env = (false, eval (.Name y p2) X.env) :: starEach [] X.env := by rfl) (hpl : (backTo pos (starEach [.Name y p2] X.env)).any (·.1) = false := by rfl) :
    PE X (.Call (.Name x p) [e, .Name y p2] [] pos) (tD K B (eIsX L y f)) := by
  subst hK
  refine (pe_callB call_isX hg hm hv (pa_cons he (pa_cons (pe_glob (v := .ref Y) hg2 hm2 rfl hdb2) pa_nil (hs := hs2)) (hs := hs)) hn hdb hs hpl).imp fun σ H Q ⟨F, ι, S, env, st, z0⟩ => ?_
  obtain ⟨d, S', e0, q⟩ := Post.noex z0
  obtain ⟨d1, S1, e1, e2⟩ := Res.bind_ok e0
  refine ⟨F, ι, S, env, st, Post.of_ok e1 fun v c1 s1 o1 r1 => ?_⟩
  cases d1 with
  | exn c ns xs =>
    have e2 : (if L.contains c = true then Res.ok (D.bl (c == y)) S1 else .stuck) = .ok d S' := e2
    by_cases hc : L.contains c = true
    · rw [if_pos hc] at e2
      cases e2
      obtain ⟨a, C, dx, vs, rfl, hmg, hF, hF2, _, _⟩ := r1
      obtain ⟨G, hk⟩ := hL c C hc hmg
      exact ⟨a, C, dx, Y, _, c == y, rfl, o1.f _ _ hF, o1.f _ _ hF2, G, hk, q _ c1 s1 o1 rfl⟩
    · rw [if_neg hc] at e2
      cases e2
  | _ => cases e2
theorem d_fld {apos : Pos} (hK : kt X = K) (hL : ∀ (k : Str) (C : Addr), L.contains k = true → X.mg k = some (.ref C) → ExG X.K C ∧ PySem.W.findIn X.K (.ref C) n = some none) (he : PE X e (tD K B f)) (hb : attributeBase e n X.env (eval e X.env) = eval e X.env := by rfl) :
    PE X (.Attribute e n apos) (tD K B (eFld L n f)) := by
  subst hK
  constructor
  rintro pins s σ H Q I ⟨F, ι, S, env, st, z0⟩
  obtain ⟨d, S', e0, q⟩ := Post.noex z0
  obtain ⟨d1, S1, e1, e2⟩ := Res.bind_ok e0
  have rd := he.run pins s σ H (fun u H1 => ∃ c1 : Bas, H1 = c1.H ∧ Step ⟨F, ι, H⟩ c1 ∧ Sok (kt X) c1 S1 ∧ Rp (kt X) c1.F c1.ι d1 u) I ⟨F, ι, S, env, st, Post.of_ok e1 fun v c1 s1 o1 r1 => ⟨c1, rfl, s1, o1, r1⟩⟩
  refine attr_of hb (thn rd fun u s1 ⟨v, H1, I1, ru, c1, eH, st1, o1, r1⟩ => ?_)
  subst eH
  obtain ⟨c, ns, xs, ed, hc, hl⟩ : ∃ (c : Str) (ns : List Str) (xs : List D), d1 = .exn c ns xs ∧ L.contains c = true ∧ List.lookup n (ns.zip xs) = some d ∧ S1 = S' := by
    cases d1 with
    | exn c ns xs =>
      have e2 : (if L.contains c = true then (match List.lookup n (ns.zip xs) with | some d => Res.ok d S1 | none => .stuck) else .stuck) = .ok d S' := e2
      by_cases hc : L.contains c = true
      · rw [if_pos hc] at e2
        cases hz : List.lookup n (ns.zip xs) with
        | none => rw [hz] at e2; cases e2
        | some d2 =>
          rw [hz] at e2
          cases e2
          exact ⟨c, ns, xs, rfl, hc, hz, rfl⟩
      · rw [if_neg hc] at e2
        cases e2
    | _ => cases e2
  obtain ⟨hl, eS⟩ := hl
  subst ed
  subst eS
  obtain ⟨a, C, dx, vs, rfl, hmg, hF, hF2, hlen, hall⟩ := r1
  obtain rfl : u = Value.ref a := ru
  obtain ⟨G, hno⟩ := hL c C hc hmg
  obtain ⟨oe, od, mA, J, rel, look⟩ := inst_of I1 (o1.f _ _ hF) (o1.f _ _ hF2)
  have fld : ∀ (ns : List Str) (xs : List D) (vs : List V), RpAll (kt X) c1.F c1.ι xs vs → List.lookup n (ns.zip xs) = some d → ∃ w, List.lookup n (ns.zip vs) = some w ∧ Rp (kt X) c1.F c1.ι d w := by
    intro ns
    induction ns with
    | nil => intro xs vs _ h; cases h
    | cons m ns ih =>
      intro xs vs hv h
      cases xs with
      | nil => cases h
      | cons x xs =>
        obtain ⟨w, r, rfl, hx, hr⟩ := hv
        show ∃ w', List.lookup n ((m, w) :: ns.zip r) = some w' ∧ _
        have h : List.lookup n ((m, x) :: ns.zip xs) = some d := h
        by_cases hm : n = m
        · subst hm
          simp [List.lookup] at h ⊢
          rw [← h]
          exact hx
        · have e : (n == m) = false := by simpa using hm
          simp [List.lookup, e] at h ⊢
          exact ih xs r hr h
  obtain ⟨w, hw, rw'⟩ := fld ns xs vs hall hl
  obtain ⟨u2, hu, ru2⟩ := RelO.some_of (v := w) (o := mA n) (by rw [← hw]; exact rel n)
  exact HandSPX.exc_get I1.kIn J G.ga G.gg G.sub (PySem.W.findObj_own G.hd hno rfl (by rw [look, hu])) (handed_of ru2) ⟨w, c1.H, I1.tok _, ru2, q w c1 st1 o1 rw'⟩
end
end DL

set_option maxHeartbeats 4000000
/-! E31: repr(..) in the law's own body; the law's def, called by the top alone. -/
namespace DL
open PySem PySem.Spec PyProof.Rows L2 LamX
/-! ### repr -/
/-- data whose repr is known: lists and tuples -/
def showB (d : D) : Bool := pl d && ((toPy d).showable && (!(toPy d).hasDict && decide ((toPy d).depth ≤ 40 ∧ (toPy d).shown.length ≤ 1000000)))
def reprGo : D → Sto → Res D
  | .lst xs, S => if showB (.lst xs) = true then .ok (.str (toPy (.lst xs)).shown) S else .stuck
  | .tup xs, S => if showB (.tup xs) = true then .ok (.str (toPy (.tup xs)).shown) S else .stuck
  | _, _ => .stuck
def eRepr (f : EE) : EE := fun env S => ((f env S).bind fun d S => reprGo d S).noex
def rReprD (K : PySem.W.Frag) : List V → Hp → VK → Prop := fun xs H Q => ∃ (a : Addr) (d : PyData), xs = [.ref a] ∧ Dp K H (.ref a) d ∧ d.showable = true ∧ d.hasDict = false ∧ d.depth ≤ 40 ∧ d.shown.length ≤ sizeLine ∧ Q (.str d.shown) H
theorem call_reprD {X : Cx} (hg : X.A.guards = some []) (hu : X.A.units + 65 < cLine) : CallR X (.builtin "repr") (rReprD X.K) := by
  intro pins s σ H xs us Q I r h
  obtain ⟨a, d, rfl, hd, h1, h2, h3, h4, q⟩ := h
  obtain ⟨u, rfl, r1⟩ := vals1 r
  cases r1
  obtain ⟨as, rd⟩ := Dp.reads I d (.ref a) (.ref a) hd rfl
  exact repr_of_reads' rd h1 (PyData.noDict_hsm h2) hg (by omega) (fun _ _ e => e) (fun h' t tk hk => ⟨.str d.shown, H, I.kept (t' := tk) hk, ⟨t, rfl⟩, q⟩) h4
section
variable {X : Cx} {K : Kt} {B : Bg} {e : Expr} {f : EE} {p pos : Pos} {x : Str}
theorem showB_ok {d : D} (h : showB d = true) : pl d = true ∧ (toPy d).showable = true ∧ (toPy d).hasDict = false ∧ (toPy d).depth ≤ 40 ∧ (toPy d).shown.length ≤ sizeLine := by
  unfold showB at h
  simp only [Bool.and_eq_true, Bool.not_eq_true', decide_eq_true_eq] at h
  obtain ⟨h1, h2, h3, h4, h5⟩ := h
  refine ⟨h1, h2, h3, h4, Nat.le_trans h5 (by decide)⟩
theorem d_repr (hK : kt X = K) (hgd : X.A.guards = some []) (hu : X.A.units + 65 < cLine) (hg : Gl X x) (hm : X.mg x = none) (hv : bootBuiltins x = some (.builtin "repr")) (he : PE X e (tD K B f))
    (hn : x ≠ "__name__" := by decide) (hdb : (x == ("__debug__" : Str)) = false := by decide)
    (hs : starEach [e] X.env = (false, eval e X.env) :: starEach [] X.env := by rfl) (hpl : (backTo pos (starEach [] X.env)).any (·.1) = false := by rfl) : PE X (.Call (.Name x p) [e] [] pos) (tD K B (eRepr f)) := by
  subst hK
  refine (pe_callB (call_reprD hgd hu) hg hm hv (pa_cons he pa_nil (hs := hs)) hn hdb hs hpl).imp fun σ H Q ⟨F, ι, S, env, st, z0⟩ => ?_
  obtain ⟨d, S', e0, q⟩ := Post.noex z0
  obtain ⟨d1, S1, e1, e2⟩ := Res.bind_ok e0
  refine ⟨F, ι, S, env, st, Post.of_ok e1 fun v c1 s1 o1 r1 => ?_⟩
  have key : ∃ a, v = .ref a ∧ showB d1 = true ∧ d = .str (toPy d1).shown ∧ S' = S1 := by
    cases d1 with
    | lst xs =>
      have e2 : (if showB (.lst xs) = true then Res.ok (D.str (toPy (.lst xs)).shown) S1 else .stuck) = .ok d S' := e2
      by_cases hc : showB (.lst xs) = true
      · rw [if_pos hc] at e2
        cases e2
        obtain ⟨a, vs, ea, _⟩ := r1
        exact ⟨a, ea, hc, rfl, rfl⟩
      · rw [if_neg hc] at e2
        cases e2
    | tup xs =>
      have e2 : (if showB (.tup xs) = true then Res.ok (D.str (toPy (.tup xs)).shown) S1 else .stuck) = .ok d S' := e2
      by_cases hc : showB (.tup xs) = true
      · rw [if_pos hc] at e2
        cases e2
        obtain ⟨a, vs, ea, _⟩ := r1
        exact ⟨a, ea, hc, rfl, rfl⟩
      · rw [if_neg hc] at e2
        cases e2
    | _ => cases e2
  obtain ⟨a, ev, hc, ed, eS⟩ := key
  subst ed
  subst eS
  obtain ⟨h1, h2, h3, h4, h5⟩ := showB_ok hc
  have hd : Dp X.K c1.H v (toPy d1) := Rp.dp o1.f d1 v h1 r1
  subst ev
  exact ⟨a, toPy d1, rfl, hd, h2, h3, h4, h5, q _ c1 s1 o1 rfl⟩
end
/-! ### the law's def -/
/-- f, called by the top -/
def FnTop (P : Program) (w : World) (K : PySem.W.Frag) (mg : Str → Option Value) (base : Heap) (f : Addr) (fd : FuncData) (ps : List Str) (sp : Sp) : Prop :=
  ∀ (s : Shared) (H : Hp) (args : Args) (us : List Value) (vs : List V) (Q : VK) (E : XK), Env0 P w K mg base callerA [] s H → BindsTo s fd args (ps.zip us) → Vals vs us → sp vs H Q E →
    codeAny (model P w) callerA (.call (.ref f) args) (CR (L2.CX P w) [] P w H s Q E) s
theorem FnOk.top {P : Program} {w : World} {K : PySem.W.Frag} {mg : Str → Option Value} {base : Heap} {k : Nat} {f : Addr} {fd : FuncData} {ps : List Str} {sp : Sp} (F : FnOk P w K mg base (L2.CX P w) k f fd ps sp) (hr : Room k callerA) : FnTop P w K mg base f fd ps sp :=
  fun s H args us vs Q E e0 hb r h => F.run callerA [] s H args us vs Q E hr e0 hb r h
/-- .. with tables of lambdas -/
def spT (Ts : List Addr) (sp : Sp) : Sp := fun vs H Q E => (∀ P ∈ Ts, TabS H P lamQ) ∧ sp vs H Q E
theorem fn_top {P : Program} {w : World} {K : Kt} {mg : Str → Option Value} {base : Heap} {x qual : Str} {st : Stmt} {f : Addr} {N ps : List Str} {k : Nat} {b : SS} {Ts : List Addr} {oc kV doc pm cdv ct : Value} {od an : Option Addr} {osl : Array (Option Value)}
    (lk : K.fr.lookup f = some ⟨oc, od, .func (PySem.W.fnOf x qual (defArgs st) (defBody st) (defScope st) .none kV doc pm an cdv ct), osl⟩) (hcg : PySem.W.codeIn K cdv qual = true) (S : FnScope N ps (defScope st)) (hr : Room (k + 1) callerA)
    (hb : ∀ (s : Shared) (H : Hp) (E : XK) (B : Bg), B.W = (fun cls d _ H' => E cls d H') → (∀ P ∈ Ts, TabS B.H P lamQ) → Room k (callerA.deeper (envOfC qual (defScope st) s.heap.objs.size f cdv)) → Takes (cxOf (L2.CX P w) P w K mg base N qual (defScope st) f cdv callerA [] s H E) B.W →
      PassesOwn (model P w) (cxOf (L2.CX P w) P w K mg base N qual (defScope st) f cdv callerA [] s H E).A (cxOf (L2.CX P w) P w K mg base N qual (defScope st) f cdv callerA [] s H E).env (cxOf (L2.CX P w) P w K mg base N qual (defScope st) f cdv callerA [] s H E).xe →
      PSs (cxOf (L2.CX P w) P w K mg base N qual (defScope st) f cdv callerA [] s H E) (defBody st) (tK ⟨K, mg⟩ B b)) :
    FnTop P w K mg base f (PySem.W.fnOf x qual (defArgs st) (defBody st) (defScope st) .none kV doc pm an cdv ct) ps (spT Ts (spD ⟨K, mg⟩ ps.length (runD N.length b))) := by
  intro s H args us vs Q E e0 hbd r h
  obtain ⟨ht, hl, F0, ι, S0, ds, ok, rp, z⟩ := h
  refine run_ofS (N := N) lk hcg S hr e0 hbd r hl fun hr' => ?_
  refine ⟨_, hb s H E ⟨⟨F0, ι, H⟩, fun cls d _ H' => E cls d H'⟩ rfl ht hr' (takes_of rfl rfl rfl rfl) (passes_of rfl), F0, ι, S0, _, start_ok ok rp, ?_⟩
  unfold runD at z
  split at z
  · rename_i d' S'' e1
    exact ⟨_, _, e1, fun v c' s o r => z v c' s o r⟩
  · rename_i env' S'' e1
    exact ⟨_, _, e1, fun σ' c' st ad => z .non c' st.st st.ok rfl⟩
  · rename_i x' env' S'' e1
    exact ⟨_, _, e1, fun σ' c' cls dx st hx => z c' cls dx st.st st.ok hx⟩
  · exact z.elim
/-- the dicts of h stand in base too -/
def Dicts (h base : Heap) : Prop := ∀ b o es n, h.get? b = some o → o.data = .dict es n → base.get? b = some o
/-- the top calls the law's def: the script's list at a; the tables cs, empty as yet -/
theorem top_call {P : Program} {w : World} {K : PySem.W.Frag} {mg mb : Str → Option Value} {fa a : Addr} {cs : List (Addr × Addr)} {fd : FuncData} {x : Str} {sp : Sp} {s : Shared} {vs : List Value} {ns : List Int}
    (KX : K.In s.heap) (hG : s.heap.Ns mainGlobals mg) (hB : s.heap.Ns builtinsNs mb) (hBB : ∀ x : Str, x ≠ "__name__" → mb x = bootBuiltins x) (hL : s.heap.NoLimit) (hg : s.gens = #[])
    (hT : ∀ p ∈ cs, s.heap.get? p.2 = some { cls := .none, data := .fields #[] }) (nT : ∀ p ∈ cs, K.lookup p.2 = none) (hC : ∀ p ∈ cs, PySem.W.CodeHd s.heap p.1 p.2)
    (hM : ∃ (bm : Addr) (ob : Obj), mg "__builtins__" = some (.ref bm) ∧ bm ≠ builtinsNs ∧ s.heap.get? bm = some ob ∧ ob.cls = .type "module" ∧ ob.dict = some builtinsNs ∧ ob.data = .plain)
    (ha : s.heap.get? a = some { cls := .type "list", data := .seq vs.toArray }) (hi : IntsAre vs ns) (hl : ns.length ≤ sizeLine)
    (F : ∀ base : Heap, K.In base → base.Ns mainGlobals mg → Dicts s.heap base → (∀ p ∈ cs, TabB base mg p.1 p.2) → FnTop P w K mg base fa fd [x] sp) (hbind : ∀ (s : Shared) (u : Value), BindsTo s fd ⟨[u], []⟩ [(x, u)])
    (hsp : ∀ H : Hp, (∀ p ∈ cs, H p.2 = some (.tbl #[])) → SqL K H a (ns.map V.int) → sp [.ref a] H (fun v _ => v = .bl true) fun _ _ _ => False) :
    codeAny (model P w) callerA (.call (.ref fa) ⟨[.ref a], []⟩) (fun r s' => r = .ok (.ret (.bool true)) ∧ OldK s.heap s'.heap ∧ s'.os = s.os ∧ AllBare s'.gens) s := by
  have rv := vals_ints hi
  -- what is tracked: the script's list (unless K holds it), the tables
  let T : List Addr := cs.map (·.2)
  have onT : ∀ b ∈ T, s.heap.get? b = some { cls := .none, data := .fields #[] } := fun b hb => by
    obtain ⟨p, hp, e⟩ := List.mem_map.mp hb
    exact e ▸ hT p hp
  have kT : ∀ b ∈ T, K.lookup b = none := fun b hb => by
    obtain ⟨p, hp, e⟩ := List.mem_map.mp hb
    exact e ▸ nT p hp
  have aT : a ∉ T := fun hb => by
    have e := ha.symm.trans (onT a hb)
    have e2 : Data.seq vs.toArray _ = Data.fields #[] := congrArg Obj.data (Option.some.inj e)
    cases e2
  let H : Hp := fun b => if b ∈ T then some (.tbl #[]) else if b = a ∧ K.lookup a = none then some (.frz { cls := .type "list", data := .seq vs.toArray } (.lst (ns.map V.int))) else none
  have HT : ∀ b, b ∈ T → H b = some (.tbl #[]) := fun b hb => if_pos hb
  have Hn : ∀ b, b ∉ T → ¬ (b = a ∧ K.lookup a = none) → H b = none := fun b h1 h2 => (if_neg h1).trans (if_neg h2)
  have Ha : K.lookup a = none → H a = some (.frz { cls := .type "list", data := .seq vs.toArray } (.lst (ns.map V.int))) := fun h => (if_neg aT).trans (if_pos ⟨rfl, h⟩)
  have Hs : ∀ b, H b = none ∨ b ∈ T ∨ (b = a ∧ K.lookup a = none) := fun b => by
    by_cases h1 : b ∈ T
    · exact .inr (.inl h1)
    · by_cases h2 : b = a ∧ K.lookup a = none
      · exact .inr (.inr h2)
      · exact .inl (Hn b h1 h2)
  -- what is neither a list nor an empty record is not tracked
  have off : ∀ {b : Addr} {o : Obj}, s.heap.get? b = some o → (∀ us n, o.data ≠ .seq us n) → o.data ≠ .fields #[] → H b = none := fun {b o} e h1 h2 => by
    rcases Hs b with z | z | ⟨z, _⟩
    · exact z
    · have e2 := Option.some.inj (e.symm.trans (onT b z))
      exact absurd (by rw [e2]) h2
    · rw [z] at e
      have e2 := Option.some.inj (e.symm.trans ha)
      exact absurd (by rw [e2]) (h1 _ _)
  have up : ∀ {b : Addr} {o : Obj}, s.heap.get? b = some o → H b = none → (hidT s.heap H).get? b = some o := fun e n => hidT_get e n
  have dictUp : ∀ {b : Addr} {m : Str → Option Value}, s.heap.Ns b m → (hidT s.heap H).Ns b m := fun {b m} ⟨o, es, ep, e, d, r⟩ =>
    ⟨o, es, ep, up e (off e (fun us n z => by rw [d] at z; cases z) (fun z => by rw [d] at z; cases z)), d, r⟩
  have bK : K.In (hidT s.heap H) := fun b o e => up (KX b o e) (by
    rcases Hs b with z | z | ⟨z, q⟩
    · exact z
    · rw [kT b z] at e
      cases e
    · rw [z, q] at e
      cases e)
  have bL : (hidT s.heap H).NoLimit := by
    obtain ⟨mc, h1, h2⟩ := hL
    exact ⟨mc, dictUp h1, h2⟩
  have md : L2.Mod K mg (hidT s.heap H) := ⟨bK, dictUp hG, ⟨mb, dictUp hB, hBB⟩, bL⟩
  have tb : ∀ p ∈ cs, TabB (hidT s.heap H) mg p.1 p.2 := fun p hp => {
    code := by
      obtain ⟨o, us, file, tf, flags, tg, inF, text, tt, e1, r1, r2, r3, r⟩ := hC p hp
      exact ⟨o, us, file, tf, flags, tg, inF, text, tt, up e1 (off e1 (fun us n z => by rw [r2] at z; cases z) (fun z => by
        rw [r2] at z
        cases z
        simp at r3)), r1, r2, r3, r⟩
    bm := by
      obtain ⟨bm, ob, b1, b2, b3, b4, b5, b6⟩ := hM
      refine ⟨bm, ob, b1, b2, fun q => ?_, fun q => ?_, up b3 (off b3 (fun us n z => by rw [b6] at z; cases z) (fun z => by rw [b6] at z; cases z)), b4, b5, b6⟩
      · obtain ⟨o, es, ep, e, d, _⟩ := hG
        rw [q, e] at b3
        cases b3
        rw [d] at b6
        cases b6
      · rw [q, hT p hp] at b3
        cases b3
        cases b6
    gP := fun z => by
      obtain ⟨o, es, ep, e, d, _⟩ := hG
      rw [z, hT p hp] at e
      cases e
      cases d }
  have hk : HOk P w H s.heap := fun b u e => by
    rcases Hs b with z | z | ⟨z, q⟩
    · rw [z] at e
      cases e
    · rw [HT b z] at e
      cases e
      exact onT b z
    · rw [z, Ha q] at e
      cases e
      rw [z]
      exact ⟨ha, by rw [List.length_map]; exact hl, vs, _, rv, ha⟩
  have e0 : Env0 P w K mg (hidT s.heap H) callerA [] s H := ⟨rfl, md, fun b o e => of_hidT e, Nat.le_of_eq (hidT_size _ _), trivial, fun b hb => absurd (show b ∈ ([] : List Addr) from hb) (by simp), hk, .of_eq hg⟩
  have script : SqL K H a (ns.map V.int) := by
    cases q : K.lookup a with
    | none => exact .inl (.inr ⟨_, Ha q⟩)
    | some o =>
      have e := Option.some.inj ((KX a o q).symm.trans ha)
      rw [e] at q
      exact .inr ⟨_, vs.toArray, _, q, rfl, rfl, rfl, by rw [List.size_toArray, hi.length]; exact hl, by simpa using rv⟩
  have dk : Dicts s.heap (hidT s.heap H) := fun b o es n e d => up e (off e (fun us n z => by rw [d] at z; cases z) (fun z => by rw [d] at z; cases z))
  have run := F _ bK (dictUp hG) dk tb s H ⟨[.ref a], []⟩ [.ref a] [.ref a] _ _ e0 (hbind s (.ref a)) (.cons rfl .nil) (hsp H (fun p hp => HT _ (List.mem_map.mpr ⟨p, hp, rfl⟩)) script)
  refine codeAny_mono run fun r s' h => ?_
  cases r with
  | error e =>
    obtain ⟨_, _, _, _, _, _, _, _, _, _, _, _, z⟩ := h
    exact z.elim
  | ok fl =>
    cases fl with
    | next => exact False.elim h
    | brk => exact False.elim h
    | cont => exact False.elim h
    | ret u =>
      obtain ⟨v, H', os, bare, un, hk', ru, qv⟩ := h
      have qv : v = .bl true := qv
      subst qv
      have ru : u = Value.bool true := ru
      subst ru
      have nofr : ∀ b : Addr, b ∉ frs ([] : List PySem.Env) := fun b z => nomatch (show b ∈ ([] : List Addr) from z)
      have stay : ∀ b o, b ∉ T → s.heap.get? b = some o → s'.heap.get? b = some o := fun b o nb e => by
        rcases Hs b with z | z | ⟨z, q⟩
        · exact un.keep b o e z (nofr b) (fun z => nomatch z)
        · exact absurd z nb
        · have t1 := un.frzs a _ _ (Ha q)
          obtain ⟨t2, _⟩ := hk' a _ t1
          rw [z] at e ⊢
          rw [← e, ha]
          exact t2
      have grew : ∀ b ∈ T, ∃ more : Array Value, s'.heap.get? b = some { cls := .none, data := .fields more } := fun b hb => by
        obtain ⟨more, z⟩ := un.tbls b #[] (HT b hb)
        exact ⟨_, hk' b _ z⟩
      refine ⟨rfl, ⟨fun b o e => ?_, fun b o e => ?_⟩, os, bare⟩
      · by_cases hb : b ∈ T
        · obtain ⟨more, hm⟩ := grew b hb
          obtain ⟨p, hp, ep⟩ := List.mem_map.mp hb
          have t := onT b hb
          rw [t] at e
          cases e
          have isT : isCodeTable s.heap b := by
            have h1 := ((hC p hp).tab (hT p hp)).isCodeTable
            have ep' : p.2 = b := ep
            rw [ep'] at h1
            exact h1
          exact .inr (.inl ⟨isT, rfl, #[], more, rfl, by rw [Array.empty_append]; exact hm⟩)
        · exact .inl (stay b o hb e)
      · by_cases hb : b ∈ T
        · obtain ⟨more, hm⟩ := grew b hb
          exact ⟨_, hm⟩
        · exact ⟨o, stay b o hb e⟩
/-- what is known of the law's def at the head's heap h -/
def TopAt (l : PySem.W.OpenLaw) (w : World) (K : PySem.W.Frag) (n : Nat) (x : Str) (mg : Str → Option Value) (fa : Addr) (h : Heap) : Prop :=
  ∃ (fd : FuncData) (cs : List (Addr × Addr)) (sp : Sp), (∀ p ∈ cs, h.get? p.2 = some { cls := .none, data := .fields #[] }) ∧ (∀ p ∈ cs, K.lookup p.2 = none) ∧ (∀ p ∈ cs, PySem.W.CodeHd h p.1 p.2) ∧ (∀ (s : Shared) (u : Value), BindsTo s fd ⟨[u], []⟩ [(x, u)]) ∧
    (∀ (H : Hp) (a : Addr) (ns : List Int), ns.length ≤ n → (∀ p ∈ cs, H p.2 = some (.tbl #[])) → SqL K H a (ns.map V.int) → sp [.ref a] H (fun v _ => v = .bl true) fun _ _ _ => False) ∧
    ∀ base : Heap, K.In base → base.Ns mainGlobals mg → Dicts h base → (∀ p ∈ cs, TabB base mg p.1 p.2) → FnTop l.prog w K mg base fa fd [x] sp
theorem walkT {l : PySem.W.OpenLaw} {n : Nat} {q : Program} {loose : List Str} {XP : (Str → Option Value) → Heap → Prop} {YP : World → Heap → Prop} {d : DefRec} {K : Params → PySem.W.Frag} {x : Str}
    (hn : l.most = some n) (hn2 : n ≤ sizeLine) (hdf : d.params.defaults = []) (hY : ∀ (w : World) (h : Heap), YP w h → (K w.params).In h)
    (F : ∀ (w : World) (mg : Str → Option Value) (fa : Addr) (h : Heap), YP w h → (K w.params).In h → h.Ns mainGlobals mg → mg d.name = some (.ref fa) → TopAt l w (K w.params) n x mg fa h) :
    PySem.W.WalkO q loose XP YP l.row.toRowW d [] (fun f vs => PySem.call f vs) := by
  refine Att.attach_callB hn hdf fun w s0 s1 mg mb fa o pm cd doc a vs ns G Y ho hd hcd hmg hobj hints hlen hbits hg => ?_
  have KX := hY w _ Y
  obtain ⟨fd, cs, sp, hT, nT, C, hb, hsp, hF⟩ := F w mg fa _ Y KX G.T.g hmg
  exact top_call KX G.T.g G.T.b G.T.builtins G.T.nolimit hg hT nT C G.T.bmain hobj hints (Nat.le_trans hlen hn2) hF hb (fun H hH hS => hsp H a ns hlen hH hS)
/-- the law's promise, with tables -/
theorem end_spT {K : Kt} {φ : List D → Sto → Res D} {Ts : List Addr} (math : ∀ ns : List Int, ns.length ≤ 63 → ∃ S', φ [.lst (ns.map .int)] [] = .ok (.bl true) S') {H : Hp} {a : Addr} {ns : List Int} (hl : ns.length ≤ 63) (hT : ∀ P ∈ Ts, H P = some (.tbl #[])) (hS : SqL K H a (ns.map V.int)) {E : XK} :
    spT Ts (spD K 1 φ) [.ref a] H (fun v _ => v = .bl true) E := ⟨fun P hP => .nil (hT P hP), end_sp math hl hS⟩
end DL

set_option maxHeartbeats 4000000
/-! E32: some more rules: l + [..], sorted(.., reverse=True). -/
namespace DL
open PySem PySem.Spec PyProof.Rows L2
theorem _root_.L2.Room.units1 {k : Nat} {A : Around} (r : Room k A) : A.units + 65 < cLine := by have := r.un; omega
section
variable {X : Cx} {K : Kt} {B : Bg} {a b e : Expr} {f : EE} {l : EL} {pos p : Pos}
/-- list + list, wherever they stand -/
def rCatL (K : PySem.W.Frag) : R2 := fun x y H Q => ∃ l b xs zs, x = .ref l ∧ y = .ref b ∧ SqL K H l xs ∧ SqL K H b zs ∧ xs.length + zs.length ≤ sizeLine ∧ ∀ p, H p = none → Q (.ref p) (upd H p (.lst (xs ++ zs)))
theorem op_catL : OpR X (binaryOp .Add) (rCatL X.K) := by
  intro pins s σ H x y v u Q I rx ry h
  obtain ⟨l, b, xs, zs, rfl, rfl, hl, hb, hz, q⟩ := h
  cases rx
  cases ry
  obtain ⟨its, r, ⟨⟨c1, d1, t1, sl1⟩, n, e1, k1, k2, k3⟩, _⟩ := I.list hl
  obtain ⟨its2, r2, ⟨⟨c2, d2, t2, sl2⟩, n2, e2, k4, k5, k6⟩, _⟩ := I.list hb
  simp only at k1 k2 k3 k4 k5 k6
  subst k1 k2 k3 k4 k5 k6
  have hlen : its.length + its2.length ≤ sizeLine := by rw [← r.length, ← r2.length]; exact hz
  refine concat_meets ⟨_, e1, rfl⟩ ⟨_, e2, rfl⟩ noFill_list_add seq_list_add PySem.F.slot_list_add PySem.F.entry_list_add (PySem.F.args_list_add_2 _ _) (PyProof.Rows.list_addW l b its.toArray its2.toArray n n2 none none sl1 sl2 (by simpa using hlen)) ⟨e1, e2, ?_⟩
  have ea : its.toArray ++ its2.toArray = (its ++ its2).toArray := by simp
  rw [ea]
  exact ⟨.ref _, _, I.lnew (t' := s.toks) (r.append r2) (by rw [List.length_append]; omega), rfl, q _ I.fresh⟩
theorem rb_sql {c : Bas} {S : Sto} {xs : List D} {v : V} {b : Hp} (ok : Sok K c S) (h : Rb K b c (.lst xs) v) : ∃ p vs, v = .ref p ∧ SqL K.fr c.H p vs ∧ RpAll K c.F c.ι xs vs ∧ vs.length ≤ sizeLine := by
  rcases h with ⟨p, vs, e, h1, hz, h2⟩ | ⟨ds, e, p, vs, e2, h1, hz, h2, _⟩
  · exact ⟨p, vs, e, ok.f.seq h1, h2, hz⟩
  · cases e
    exact ⟨p, vs, e2, SqL.of h1, h2, hz⟩
/-- xs + [..], xs any list -/
def catGo : D → List D → Sto → Res (List D)
  | .lst xs, ys, S => if xs.length + ys.length ≤ 1000000 then .ok (xs ++ ys) S else .stuck
  | _, _, _ => .stuck
def eCatB (f : EE) (l : EL) : EL := fun env S => ((f env S).bind fun x S => (l env S).bind fun ys S => catGo x ys S).noex
theorem n_catB (hK : kt X = K) (ha : PE X a (tB K B f)) (hb : PE X b (tN K B l)) : PE X (.BinOp a .Add b pos) (tN K B (eCatB f l)) := (pe_op op_catL ha hb).imp fun σ H Q ⟨F, ι, S, env, st, z0⟩ => by
  subst hK
  obtain ⟨zs, S', e0, q⟩ := Post.noex z0
  obtain ⟨x, S1, e1, e2⟩ := Res.bind_ok e0
  obtain ⟨ys, S2, e3, e4⟩ := Res.bind_ok e2
  refine ⟨F, ι, S, env, st, Post.of_ok e1 fun v1 c1 s1 o1 r1 => ?_⟩
  refine ⟨c1.F, c1.ι, S1, env, st.step s1 o1, Post.of_ok e3 fun v2 c2 s2 o2 n2 => ?_⟩
  cases x with
  | lst xs =>
    have e4 : (if xs.length + ys.length ≤ 1000000 then Res.ok (xs ++ ys) S2 else .stuck) = .ok zs S' := e4
    by_cases hz : xs.length + ys.length ≤ 1000000
    · rw [if_pos hz] at e4
      cases e4
      obtain ⟨p2, w2, ev2, a2, b2, d2, r2, f2, g2⟩ := n2
      obtain ⟨p1, w1, ev1, b1, r1', _⟩ := rb_sql o2 (r1.step s2)
      have hl : w1.length + w2.length ≤ sizeLine := by rw [r1'.len, r2.len]; exact sizeM' hz
      refine ⟨p1, p2, w1, w2, ev1, ev2, b1, SqL.of b2, hl, fun p hp => ?_⟩
      obtain ⟨s3, o3, n3⟩ := new_lst o2 hp (by rw [List.length_append]; exact hl) (r1'.append r2)
      exact q _ ⟨_, _, _⟩ ((s1.trans s2).trans s3) o3 (n3.from (s1.trans s2))
    · rw [if_neg hz] at e4
      cases e4
  | _ => cases e4
/-- [..] + xs, xs any list -/
def catGo2 : List D → D → Sto → Res (List D)
  | xs, .lst ys, S => if xs.length + ys.length ≤ 1000000 then .ok (xs ++ ys) S else .stuck
  | _, _, _ => .stuck
def eCatR (l : EL) (f : EE) : EL := fun env S => ((l env S).bind fun xs S => (f env S).bind fun y S => catGo2 xs y S).noex
theorem n_catR (hK : kt X = K) (ha : PE X a (tN K B l)) (hb : PE X b (tB K B f)) : PE X (.BinOp a .Add b pos) (tN K B (eCatR l f)) := (pe_op op_catL ha hb).imp fun σ H Q ⟨F, ι, S, env, st, z0⟩ => by
  subst hK
  obtain ⟨zs, S', e0, q⟩ := Post.noex z0
  obtain ⟨xs, S1, e1, e2⟩ := Res.bind_ok e0
  obtain ⟨y, S2, e3, e4⟩ := Res.bind_ok e2
  refine ⟨F, ι, S, env, st, Post.of_ok e1 fun v1 c1 s1 o1 n1 => ?_⟩
  refine ⟨c1.F, c1.ι, S1, env, st.step s1 o1, Post.of_ok e3 fun v2 c2 s2 o2 r2 => ?_⟩
  cases y with
  | lst ys =>
    have e4 : (if xs.length + ys.length ≤ 1000000 then Res.ok (xs ++ ys) S2 else .stuck) = .ok zs S' := e4
    by_cases hz : xs.length + ys.length ≤ 1000000
    · rw [if_pos hz] at e4
      cases e4
      obtain ⟨p1, w1, ev1, a1, b1, d1, r1, f1, g1⟩ := n1
      have la : LAt c2 p1 (.lst w1) := LAt.step (c := c1) ⟨b1, f1, g1⟩ s2
      obtain ⟨p2, w2, ev2, b2, r2', _⟩ := rb_sql o2 r2
      have hl : w1.length + w2.length ≤ sizeLine := by rw [r1.len, r2'.len]; exact sizeM' hz
      refine ⟨p1, p2, w1, w2, ev1, ev2, SqL.of la.1, b2, hl, fun p hp => ?_⟩
      obtain ⟨s3, o3, n3⟩ := new_lst o2 hp (by rw [List.length_append]; exact hl) ((s2.rpAll r1).append r2')
      exact q _ ⟨_, _, _⟩ ((s1.trans s2).trans s3) o3 (n3.from (s1.trans s2))
    · rw [if_neg hz] at e4
      cases e4
  | _ => cases e4
/-- sorted(xs, reverse=True), xs whole numbers -/
def revGo : D → Sto → Res (List D)
  | .lst xs, S => (match allInt xs with
    | some ns => .ok ((ns.mergeSort fun a b => decide (b ≤ a)).map .int) S
    | none => .stuck)
  | _, _ => .stuck
def eSortR (f : EE) : EL := fun env S => ((f env S).bind fun x S => revGo x S).noex
theorem n_sortR {kpos p2 : Pos} {kk : Nat} (hK : kt X = K) (hm : X.mg "sorted" = none) (ha : PE X e (tB K B f)) (hg : Gl X "sorted" := by rfl)
    (hs : starEach [e] X.env = (false, eval e X.env) :: starEach [] X.env := by rfl) (hse : backTo pos (starEach [e] X.env) = (false, eval e X.env) :: backTo pos (starEach [] X.env) := by rfl) (hpl : (backTo pos (starEach [e] X.env)).any (·.1) = false := by rfl)
    (hall : (backToKw pos (keywordEach [⟨some "reverse", .Constant (.bool true) kk p2, kpos⟩] X.env)).all (·.1.isSome) = true := by rfl) (hnone : (backToKw pos (keywordEach [⟨some "reverse", .Constant (.bool true) kk p2, kpos⟩] X.env)).any (·.1.isNone) = false := by rfl)
    (hks : (backToKw pos (keywordEach [⟨some "reverse", .Constant (.bool true) kk p2, kpos⟩] X.env)).filterMap (·.1) = [("reverse" : Str)] := by rfl) :
    PE X (.Call (.Name "sorted" p) [e] [⟨some "reverse", .Constant (.bool true) kk p2, kpos⟩] pos) (tN K B (eSortR f)) := by
  subst hK
  refine (pe_callBK (cr_sortedRev (b := true)) hg hm PyProof.Rows.boot_sorted (pa_cons ha pa_nil (hs := hs)) (pk_cons pe_bl pk_nil) (by decide) (by decide) hse hpl hall hnone hks).imp fun σ H Q ⟨F, ι, S, env, st, z0⟩ => ?_
  obtain ⟨zs, S', e0, q⟩ := Post.noex z0
  obtain ⟨x, S1, e1, e2⟩ := Res.bind_ok e0
  refine ⟨F, ι, S, env, st, Post.of_ok e1 fun v1 c1 s1 o1 r1 => ?_⟩
  cases x with
  | lst xs =>
    have e2 : (match allInt xs with | some ns => Res.ok ((ns.mergeSort fun a b => decide (b ≤ a)).map D.int) S1 | none => .stuck) = .ok zs S' := e2
    cases hx : allInt xs with
    | none => rw [hx] at e2; cases e2
    | some ns =>
      rw [hx] at e2
      cases e2
      have hx' := allInt_map hx
      subst hx'
      obtain ⟨p1, w1, ev1, b1, r1', hz⟩ := rb_sql o1 r1
      have h2 := r1'.ints
      subst h2
      refine ⟨p1, ns, by rw [ev1], rfl, b1, fun ms p hp ho hn => ?_⟩
      have em : ms = ns.mergeSort fun a b => decide (b ≤ a) := by
        refine List.Perm.eq_of_pairwise (le := fun a b => b ≤ a) (fun a b _ _ h1 h2 => Int.le_antisymm h2 h1) ho ?_ (hp.trans (List.mergeSort_perm _ _).symm)
        have hs := List.pairwise_mergeSort (le := fun a b : Int => decide (b ≤ a)) (fun a b c h1 h2 => by simp at h1 h2 ⊢; omega) (fun a b => by simp; omega) ns
        exact hs.imp fun h => by simpa using h
      subst em
      have hl : ((ns.mergeSort fun a b => decide (b ≤ a)).map V.int).length ≤ sizeLine := by
        rw [List.length_map, List.length_mergeSort]
        rw [List.length_map] at hz
        exact hz
      obtain ⟨s2, o2, n2⟩ := new_lst o1 hn hl (rp_ints _)
      exact q _ ⟨_, _, _⟩ (s1.trans s2) o2 (n2.from s1)
  | _ => cases e2
end
/-! ### the def that hears, evaluated -/
theorem ask_at (f0 : Addr) (act : Sto → Res D) (env : Env) (S : Sto) : eAsk 0 f0 act (some (.fn f0) :: env) S = act S := by
  show (if f0 = f0 then act S else .stuck) = act S
  rw [if_pos rfl]
theorem try_ok {i : Nat} {fits : Str → Bool} {b hd : SS} {env e1 : Env} {S S' : Sto} (h0 : env.all noOwn = true) (h : b env S = .ok (.nx e1) S') : sTry i fits b hd env S = .ok (.nx e1) S' := by
  unfold sTry
  rw [if_pos h0, h]
  rfl
theorem try_ex {i : Nat} {fits : Str → Bool} {b hd : SS} {env e1 e2 : Env} {S S' S2 : Sto} {x : Exn} (h0 : env.all noOwn = true) (h : b env S = .ok (.rs x e1) S') (hf : fits x.c = true) (h2 : hd (e1.set i (some (.sh (.exn x.c x.ns x.xs)))) S' = .ok (.nx e2) S2) : sTry i fits b hd env S = .ok (.nx (e2.set i none)) S2 := by
  unfold sTry
  rw [if_pos h0, h]
  show (if fits x.c = true then tryEnd i (hd (e1.set i (some (.sh (.exn x.c x.ns x.xs)))) S') else .stuck) = _
  rw [if_pos hf, h2]
  rfl
theorem seq_nx {a b : SS} {env e1 : Env} {S S1 : Sto} (h : a env S = .ok (.nx e1) S1) : sSeq a b env S = b e1 S1 := by
  unfold sSeq
  rw [h]
  rfl
/-- what is heard: the answer, or what psiX makes of an exception -/
def psiGo (px : Str → List Str → List D → Sto → Res D) : Res D → Res D
  | .ok d S => .ok (.lst [d]) S
  | .ex x S => px x.c x.ns x.xs S
  | .stuck => .stuck
end DL

set_option maxHeartbeats 4000000
/-! E33: two own lists at once; from one own list into another. -/
namespace DL
open PySem PySem.Spec PyProof.Rows L2
section
variable {X : Cx} {K : Kt} {B : Bg} {a b e : Expr} {f : EE} {l m : EL} {st : Stmt} {pos : Pos}
/-! ### a, b = list(..), [] -/
def sNew2 (i j : Nat) (l m : EL) : SS := fun env S => (l env S).bindS env fun ds S => (m env S).bindS env fun es S => .ok (.nx ((env.set i (some (.own ds))).set j (some (.own es)))) S
theorem s_new2 {i j : Nat} (h : PS X st (tPar i j (tCons (tN K B l) (tCons (tN K B m) tNil)))) : PS X st (tK K B (sNew2 i j l m)) := h.imp fun E σ H ⟨F, ι, S, env, st, oo, S', e, q⟩ => by
  refine ⟨F, ι, S, env, st, (bindS_post e q).imp fun ds S1 e v c1 s1 o1 n1 => ?_⟩
  refine ⟨c1.F, c1.ι, S1, env, st.step s1 o1, (bindS_post e q).imp fun es S2 e w c2 s2 o2 n2 => ?_⟩
  cases e
  have st1 := st.step s1 o1
  have st2 := st1.step s2 o2
  have w1 : OwnAt K B.H c2 ds v := OwnAt.step (NewAt.own st.st n1) s2
  have w2 : OwnAt K B.H c2 es w := NewAt.own st1.st n2
  refine ⟨v, w, rfl, q _ c2 ⟨st2.ok, (st2.env.set_own i w1 (fun k fs hk ek z => ?_)).set_own j w2 (fun k fs hk ek z => ?_), st2.st⟩ (s1.trans s2).adv⟩
  · obtain ⟨u, g1, a, ws, e2, g2, _⟩ := st.env.at_ k _ ek
    obtain ⟨a', vs', e3, n3, _⟩ := n1
    rw [g1, e2, e3] at z
    cases z
    rw [n3] at g2
    cases g2
  · obtain ⟨a', vs', e3, n3, _⟩ := n2
    by_cases hki : i = k
    · subst hki
      have hl : i < σ.length := by
        have := (List.getElem?_eq_some_iff.mp ek).1
        rw [List.length_set, st.env.len] at this
        exact this
      rw [List.getElem?_set_self hl] at z
      obtain ⟨a, ws, e2, _, g2, _⟩ := n1
      rw [e2, e3] at z
      cases z
      rw [n3] at g2
      cases g2
    · rw [List.getElem?_set_ne hki] at ek z
      obtain ⟨u, g1, a, ws, e2, g2, _⟩ := st1.env.at_ k _ ek
      rw [g1, e2, e3] at z
      cases z
      rw [n3] at g2
      cases g2
/-! ### found.append(rest.pop(k)) -/
def moveGo (i j : Nat) (env : Env) (fs rs : List D) : D → Sto → Res Out
  | .int k, S => match seqIndex? k rs.length with
    | some n => (match rs[n]? with
      | some x => if (-(2 ^ 63) ≤ k ∧ k < 2 ^ 63) ∧ fs.length < 1000000 then .ok (.nx ((env.set j (some (.own (rs.eraseIdx n)))).set i (some (.own (fs ++ [x]))))) S else .stuck
      | none => .stuck)
    | none => .stuck
  | _, _ => .stuck
def sMove (i j : Nat) (f : EE) : SS := fun env S => match env[i]?, env[j]? with
  | some (some (.own fs)), some (some (.own rs)) => (f env S).bindS env fun d S => moveGo i j env fs rs d S
  | _, _ => .stuck
theorem s_move {i j : Nat} (hij : i ≠ j) (hK : kt X = K) (hp : PS X st (tDrop (tBM X.K "list" rAppend (tVar i) (tCons (tBM X.K "list" rPopAt (tVar j) (tCons (tD K B f) tNil)) tNil)))) : PS X st (tK K B (sMove i j f)) := hp.imp fun E σ H ⟨F, ι, S, env, st, o, S', e, q⟩ => by
  subst hK
  unfold sMove at e
  split at e
  · rename_i fs rs hi hj
    obtain ⟨v, hv, a, vs, ev, h1, hl, h2, h3, h4, h5⟩ := st.env.at_ i _ hi
    obtain ⟨w, hw, b, ws, ew, g1, gl, g2, g3, g4, g5⟩ := st.env.at_ j _ hj
    subst ev ew
    have hab : b ≠ a := fun z => st.env.inj i j fs rs hi hj hij (by rw [hv, hw, z])
    refine ⟨.ref a, hv, .inl ⟨rfl, _, SqL.of h1⟩, .ref b, hw, .inl ⟨rfl, _, SqL.of g1⟩, F, ι, S, env, st, (bindS_post e q).imp fun d S1 e x c1 s1 o1 r1 => ?_⟩
    cases d with
    | int k =>
      cases (show x = .int k from r1)
      replace e : (match seqIndex? k rs.length with
        | some n => (match rs[n]? with
          | some x => if (-(2 ^ 63) ≤ k ∧ k < 2 ^ 63) ∧ fs.length < 1000000 then Res.ok (Out.nx ((env.set j (some (.own (rs.eraseIdx n)))).set i (some (.own (fs ++ [x]))))) S1 else .stuck
          | none => .stuck)
        | none => .stuck) = .ok o S' := e
      split at e
      · rename_i n hn
        split at e
        · rename_i y hy
          split at e
          · rename_i hb
            cases e
            have st1 := st.step s1 o1
            have la : LAt c1 a (.lst vs) := LAt.step (c := ⟨F, ι, H⟩) ⟨h1, h3, h4⟩ s1
            have lb : LAt c1 b (.lst ws) := LAt.step (c := ⟨F, ι, H⟩) ⟨g1, g3, g4⟩ s1
            have ra := s1.rpAll h2
            have rb := s1.rpAll g2
            obtain ⟨u, hu, ru⟩ := rb.get hy
            refine ⟨b, ws, k, n, u, rfl, rfl, lb.1, hb.1.1, hb.1.2, by rw [rb.len]; exact hn, hu, ?_⟩
            have hla : (upd c1.H b (.lst (ws.eraseIdx n))) a = some (.lst vs) := by rw [upd_ne (fun z => hab z.symm)]; exact la.1
            have hlen : vs.length < sizeLine := by rw [h2.len]; exact sizeM hb.2
            refine ⟨a, vs, u, rfl, rfl, hla, hlen, ?_⟩
            have stb := Stt.own_upd (vs := ws) (vs' := ws.eraseIdx n) (ds' := rs.eraseIdx n) st1 hj hw (by have := List.length_eraseIdx_le ws n; omega) (rb.eraseIdx n)
            have hi' : (env.set j (some (.own (rs.eraseIdx n))))[i]? = some (some (.own fs)) := by rw [List.getElem?_set_ne (fun z => hij z.symm)]; exact hi
            exact q σ ⟨c1.F, c1.ι, upd (upd c1.H b (.lst (ws.eraseIdx n))) a (.lst (vs ++ [u]))⟩ (Stt.own_upd (vs := vs) stb hi' hv (by rw [List.length_append]; exact hlen) (ra.snoc ru)) ⟨s1.same, s1.pre⟩
          · cases e
        · cases e
      · cases e
    | _ => cases e
  · cases e
theorem s_moveA {i j : Nat} {apos bpos cpos dpos : Pos} (hij : i ≠ j) (hx : PE X a (tVar i)) (hy : PE X b (tVar j)) (h : PE X e (tD (kt X) B f))
    (hs : starEach [e] X.env = (false, eval e X.env) :: starEach [] X.env := by rfl)
    (hs2 : starEach [.Call (.Attribute b "pop" apos) [e] [] bpos] X.env = (false, eval (.Call (.Attribute b "pop" apos) [e] [] bpos) X.env) :: starEach [] X.env := by rfl)
    (hbase : attributeBase a "append" X.env (eval a X.env) = eval a X.env := by rfl) (hbase2 : attributeBase b "pop" X.env (eval b X.env) = eval b X.env := by rfl)
    (hfew : ((backTo bpos (starEach [e] X.env)).all (fun x => !x.1) && (backToKw bpos (keywordEach [] X.env)).all (fun x => x.1.isSome)
      && decide ([e].length + ([] : List Keyword).length + (if ([] : List Keyword).isEmpty then 0 else 1) < 30)) = true := by rfl)
    (hfew2 : ((backTo dpos (starEach [.Call (.Attribute b "pop" apos) [e] [] bpos] X.env)).all (fun x => !x.1) && (backToKw dpos (keywordEach [] X.env)).all (fun x => x.1.isSome)
      && decide ([Expr.Call (.Attribute b "pop" apos) [e] [] bpos].length + ([] : List Keyword).length + (if ([] : List Keyword).isEmpty then 0 else 1) < 30)) = true := by rfl)
    (hline : (apos.endLine == bpos.line) = true := by rfl) (hline2 : (cpos.endLine == dpos.line) = true := by rfl)
    (hplain : (backTo bpos (starEach [] X.env)).any (·.1) = false := by rfl) (hplain2 : (backTo dpos (starEach [] X.env)).any (·.1) = false := by rfl)
    (hsw : swapsWith (.Call (.Attribute a "append" cpos) [.Call (.Attribute b "pop" apos) [e] [] bpos] [] dpos) none pos.line X.env = pure false := by rfl) :
    PS X (.Expr (.Call (.Attribute a "append" cpos) [.Call (.Attribute b "pop" apos) [e] [] bpos] [] dpos) pos) (tK (kt X) B (sMove i j f)) :=
  s_move hij rfl (ps_expr (pe_bm PySem.F.plainAttrs_list PySem.F.slot_list_append PySem.F.type_list_append mt_append hx
    (pa_cons (pe_bm PySem.F.plainAttrs_list PySem.F.slot_list_pop PySem.F.type_list_pop mt_popAt hy (pa_cons h pa_nil (hs := hs)) hbase2 hfew hline hs hplain) pa_nil (hs := hs2)) hbase hfew2 hline2 hs2 hplain2) hsw)
end
end DL

set_option maxHeartbeats 4000000
/-! E34: sum(lists, []). -/
namespace DL
open PySem PySem.Spec PyProof.Rows L2
theorem args_sum2 (a b : Value) : argsOk "sum" ⟨[a, b], []⟩ := by unfold argsOk; kernel_rfl
section
variable {prog : Program} {w : World} {A : Around} {R : Result → Shared → Prop}
theorem codeAny_sumL (hh : A.handled = none) {I ax S : Addr} (hSI : S ≠ I) (hSa : S ≠ ax) (haI : ax ≠ I) {items : Array Value} {rows pre : Nat → List Value} {h0 : Heap}
    (hrow : ∀ i v, items[i]? = some v → ∃ a, v = .ref a ∧ PlainL h0 a (rows i).toArray) (hI0 : h0.objs.size ≤ I) (hS0 : h0.objs.size ≤ S)
    (hpre : ∀ i, i < items.size → pre (i + 1) = pre i ++ rows i) (hsz : ∀ i, i < items.size → (pre i).length + (rows i).length ≤ sizeLine) :
    ∀ (k i : Nat) (s : Shared) (T : Addr) (c : Nat), items.size - i = k → i ≤ items.size → (s.heap.IsListIter I ax i ∧ s.heap.IsList ax items) → s.heap.get? S = some { cls := .type "list", dict := none, data := .seq #[.ref T] c, slots := #[] } →
      s.heap.PlainList T (pre i).toArray → T ≠ I → T ≠ S → (∀ b o, h0.get? b = some o → s.heap.get? b = some o) →
      (∀ h' tk T', (∀ b o, h0.get? b = some o → h'.get? b = some o) → h'.PlainList T' (pre items.size).toArray → (T' = T ∧ i = items.size ∨ i < items.size ∧ S < T') → R (.ok (.ret (.ref T'))) { s with heap := h', toks := tk }) →
      codeAny (model prog w) A (.builtin "sum.loop" ⟨[.ref I, .ref S, rawInt 2, rawInt 0], []⟩) R s := by
  have old : ∀ b o, h0.get? b = some o → b ≠ I ∧ b ≠ S := fun b o e => by
    have h1 : b < h0.objs.size := Heap.lt_size e
    exact ⟨fun z => Nat.lt_irrefl b (Nat.lt_of_lt_of_le h1 (z ▸ hI0)), fun z => Nat.lt_irrefl b (Nat.lt_of_lt_of_le h1 (z ▸ hS0))⟩
  intro k
  induction k with
  | zero =>
    intro i s T c hk hi hst hS hT hTI hTS hkeep hR
    have hin : i = items.size := by omega
    subst hin
    refine codeAny_builtin F.entry_sum_loop ?_
    rw [Around.under_plainId F.plain_sum_loop _]
    show wpAny _ A.in1 (seqItems? (.ref S) >>= _) _ _ s
    refine wpAny_bind (wpAny_seqItems hS rfl ?_)
    show wpAny _ A.in1 (tryCatch (pyNext (.ref I)) _ >>= _) _ _ s
    refine wpAny_bind (wpAny_tryCatch ((Walks.list (A := A.in1) hh I ax haI items).done s _ _ hst fun h' tk hm => ?_))
    refine wpAny_pure (hR h' tk T (fun b o e => hm b o (fun z => (old b o e).1 (List.mem_singleton.mp z)) (hkeep b o e)) ?_ (.inl ⟨rfl, rfl⟩))
    exact hT.at fun o e => hm T o (fun z => hTI (List.mem_singleton.mp z)) e
  | succ k ih =>
    intro i s T c hk hi hst hS hT hTI hTS hkeep hR
    have hlt : i < items.size := by omega
    refine codeAny_builtin F.entry_sum_loop ?_
    rw [Around.under_plainId F.plain_sum_loop _]
    show wpAny _ A.in1 (seqItems? (.ref S) >>= _) _ _ s
    refine wpAny_bind (wpAny_seqItems hS rfl ?_)
    show wpAny _ A.in1 (tryCatch (pyNext (.ref I)) _ >>= _) _ _ s
    refine wpAny_bind (wpAny_tryCatch ((Walks.list (A := A.in1) hh I ax haI items).item i s _ _ hlt hst fun v h' tk hP hst' hm => ?_))
    obtain ⟨a, rfl, ra⟩ := hrow i v hP
    have hm' : ∀ b o, b ≠ I → s.heap.get? b = some o → h'.get? b = some o := fun b o hb => hm b o fun z => hb (List.mem_singleton.mp z)
    have hk' : ∀ b o, h0.get? b = some o → h'.get? b = some o := fun b o e => hm' b o (old b o e).1 (hkeep b o e)
    obtain ⟨n1, e1⟩ := hT
    obtain ⟨⟨c2, d2, t2, sl2⟩, n2, e2, k4, k5, k6⟩ := ra
    simp only at k4 k5 k6
    subst k4 k5 k6
    have e1' := hm' T _ hTI e1
    have e2' := hk' a _ e2
    have hS' := hm' S _ hSI hS
    have hszi := hsz i hlt
    show wpAny _ A.in1 ((holding [Value.ref a] (binaryOp .Add (.ref T) (.ref a))).attempt >>= _) _ _ _
    refine wpAny_bind (wpAny_attempt (wpAny_holding (concat_meets ⟨_, e1', rfl⟩ ⟨_, e2', rfl⟩ noFill_list_add seq_list_add PySem.F.slot_list_add PySem.F.entry_list_add (PySem.F.args_list_add_2 _ _)
      (PyProof.Rows.list_addW T a (pre i).toArray (rows i).toArray n1 n2 none none #[] sl2 (by simpa using hszi)) ⟨e1', e2', ?_⟩)))
    have ea : (pre i).toArray ++ (rows i).toArray = (pre (i + 1)).toArray := by rw [hpre i hlt]; simp
    rw [ea]
    show wpAny _ A.in1 (updateSeq S (fun _ => #[Value.ref h'.objs.size]) >>= _) _ _ _
    have hSz : S < h'.objs.size := Heap.lt_size hS'
    obtain ⟨oI, eI, _⟩ := hst'.1
    have hIz : I < h'.objs.size := Heap.lt_size eI
    have hS1 : (h'.push { cls := .type "list", data := .seq (pre (i + 1)).toArray }).get? S = _ := Heap.get?_push_of_some _ hS'
    refine wpAny_bind (wpAny_updateSeq hS1 rfl ?_)
    have hS2 := Heap.get?_update_self (Obj.mapSeq fun _ => #[Value.ref h'.objs.size]) hS1 rfl
    refine wpAny_bind (wpAny_letGo ?_)
    have fr : ∀ b o, b ≠ S → h'.get? b = some o → (((h'.push { cls := .type "list", data := .seq (pre (i + 1)).toArray }).update S (Obj.mapSeq fun _ => #[Value.ref h'.objs.size])).update S (Obj.mapSeq fun _ => #[Value.ref h'.objs.size])).get? b = some o := fun b o hb e => by
      rw [Heap.get?_update_other _ _ (fun z => hb z.symm), Heap.get?_update_other _ _ (fun z => hb z.symm)]
      exact Heap.get?_push_of_some _ e
    refine wpAny_bind (wpAny_updateSeq hS2 rfl (wpAny_pure ⟨plainId_quiet F.plain_sum_loop _, ih (i + 1) _ h'.objs.size _ (by omega) hlt ?_ (Heap.get?_update_self (Obj.mapSeq fun _ => #[Value.ref h'.objs.size]) hS2 rfl) ?_ ?_ ?_ ?_ ?_⟩))
    · exact ⟨hst'.1.at fun o e => fr I o (fun z => hSI z.symm) e, hst'.2.at fun o e => fr ax o (fun z => hSa z.symm) e⟩
    · refine ⟨0, ?_⟩
      show (Heap.update (Heap.update (Heap.push h' { cls := .type "list", data := .seq (pre (i + 1)).toArray }) S _) S _).get? h'.objs.size = _
      rw [Heap.get?_update_other _ _ (Nat.ne_of_lt hSz), Heap.get?_update_other _ _ (Nat.ne_of_lt hSz)]
      exact Heap.get?_push_size _ rfl
    · exact fun z => Nat.lt_irrefl _ (z ▸ hIz)
    · exact fun z => Nat.lt_irrefl _ (z ▸ hSz)
    · exact fun b o e => fr b o (old b o e).2 (hk' b o e)
    · intro h2 tk2 T' g1 g2 g3
      refine hR h2 tk2 T' g1 g2 (.inr ⟨hlt, ?_⟩)
      rcases g3 with ⟨z, _⟩ | z
      · rw [z]; exact hSz
      · exact z.2
end
section
variable {prog : Program} {w : World} {A : Around} {E : Value → Shared → Prop} {s : Shared}
theorem sumL_raw {l b : Addr} {items : Array Value} {rows pre : Nat → List Value} {Q : Value → Shared → Prop} (hh : A.handled = none) (hl : s.heap.IsList l items) (hb : s.heap.PlainList b #[])
    (hrow : ∀ i v, items[i]? = some v → ∃ a, v = .ref a ∧ PlainL s.heap a (rows i).toArray) (hp0 : pre 0 = [])
    (hpre : ∀ i, i < items.size → pre (i + 1) = pre i ++ rows i) (hsz : ∀ i, i < items.size → (pre i).length + (rows i).length ≤ sizeLine)
    (h : ∀ h' tk T', (∀ b o, s.heap.get? b = some o → h'.get? b = some o) → h'.PlainList T' (pre items.size).toArray → (T' = b ∧ 0 = items.size ∨ 0 < items.size ∧ s.heap.objs.size ≤ T') → Q (.ref T') { s with heap := h', toks := tk }) :
    wpAny (model prog w) A (call (.builtin "sum") [.ref l, .ref b]) Q E s := by
  refine call_function_tree F.kind_sum F.plain_sum F.entry_sum (args_sum2 _ _) ?_
  unfold Builtin.«sum»
  simp only [List.length_cons, List.length_nil]
  rw [if_neg (by decide)]
  refine wpAny_bind (wpAny_of_eq (show Builtin.Builtins.bindParams "sum" ["start"] 0 ⟨[.ref b], []⟩ = pure [some (.ref b)] from rfl) ?_)
  have hll : l < s.heap.objs.size := by obtain ⟨_, e, _⟩ := hl; exact Heap.lt_size e
  have hbb : b < s.heap.objs.size := by obtain ⟨_, e⟩ := hb; exact Heap.lt_size e
  refine wpAny_bind (wpAny_pyIter_list hl ?_)
  refine wpAny_bind (wpAny_pure ?_)
  obtain ⟨nb, eb⟩ := hb
  have tb : ({ s with heap := s.heap.push { cls := .type "list_iterator", data := .fields #[.ref l, .int 0 0] } } : Shared).TypeIs (.ref b) "list" := ⟨_, Heap.get?_push_of_some _ eb, rfl⟩
  simp only [List.forIn_cons, List.forIn_nil]
  refine wpAny_bind (wpAny_bind (wpAny_bind (wpAny_isInstance (T := "list") (b := false) tb F.sub_list_str ?_)))
  simp only [Bool.false_eq_true, if_false]
  refine wpAny_pure (wpAny_bind (wpAny_bind (wpAny_isInstance (T := "list") (b := false) tb F.sub_list_bytes ?_)))
  simp only [Bool.false_eq_true, if_false]
  refine wpAny_pure (wpAny_bind (wpAny_bind (wpAny_isInstance (T := "list") (b := false) tb (by rw [isSubtype_type]; kernel_rfl) ?_)))
  simp only [Bool.false_eq_true, if_false]
  refine wpAny_pure (wpAny_pure ?_)
  refine wpAny_bind (wpAny_newObj_type ?_)
  have z1 : (s.heap.push { cls := .type "list_iterator", data := .fields #[.ref l, .int 0 0] }).objs.size = s.heap.objs.size + 1 := Heap.size_push ..
  refine wpAny_pure ⟨plainId_quiet F.plain_sum_loop _, codeAny_sumL (h0 := s.heap) hh (I := s.heap.objs.size) (ax := l) (S := (s.heap.push { cls := .type "list_iterator", data := .fields #[.ref l, .int 0 0] }).objs.size) (by rw [z1]; exact Nat.succ_ne_self _) (by rw [z1]; exact (Nat.ne_of_lt (Nat.lt_succ_of_lt hll)).symm) (Nat.ne_of_lt hll)
    hrow (Nat.le_refl _) (by rw [z1]; exact Nat.le_succ _) hpre hsz items.size 0 _ b 0 rfl (Nat.zero_le _) ⟨⟨_, Heap.get?_push_of_some _ (Heap.get?_push_size _ rfl), rfl, rfl⟩, (hl.push _).push _⟩ (Heap.get?_push_size _ rfl) ⟨nb, by rw [hp0]; exact Heap.get?_push_of_some _ (Heap.get?_push_of_some _ eb)⟩ (Nat.ne_of_lt hbb) (by rw [z1]; exact Nat.ne_of_lt (Nat.lt_succ_of_lt hbb))
    (fun b o e => Heap.get?_push_of_some _ (Heap.get?_push_of_some _ e)) fun h' tk T' g1 g2 g3 => ?_⟩
  refine h h' tk T' g1 g2 (g3.imp id fun ⟨z0, z⟩ => ⟨z0, ?_⟩)
  rw [z1] at z
  exact Nat.le_trans (Nat.le_succ _) (Nat.le_of_lt z)
end
section
variable {X : Cx} {K : Kt} {B : Bg} {a b e : Expr} {f : EE} {l : EL} {pos p p2 : Pos}
def rSumL (K : PySem.W.Frag) : List V → Hp → VK → Prop := fun vs H Q => ∃ (a b : Addr) (rs : List Addr) (xss : List (List V)), vs = [V.ref a, V.ref b] ∧ SqL K H a (rs.map V.ref) ∧ H b = some (.lst []) ∧ rs.length = xss.length ∧
  (∀ (i : Nat) (r : Addr) (xs : List V), rs[i]? = some r → xss[i]? = some xs → SqL K H r xs) ∧ xss.flatten.length ≤ sizeLine ∧ (rs = [] → Q (.ref b) H) ∧ (rs ≠ [] → ∀ p, H p = none → Q (.ref p) (upd H p (.lst xss.flatten)))
theorem vals_ref : ∀ {rs : List Addr} {us : List Value}, Vals (rs.map V.ref) us → us = rs.map Value.ref
  | [], us, r => by cases r; rfl
  | x :: rs, us, r => by
    cases r with
    | cons h t => rw [vals_ref t]; cases h; rfl
theorem cr_sumL (hc : X.calm = true) : CallR X (.builtin "sum") (rSumL X.K) := by
  intro pins s σ H vs us Q I r h
  obtain ⟨a, b, rs, xss, rfl, hs, hb, hl, hx, hz, q0, q1⟩ := h
  obtain ⟨its, rv, hL, _⟩ := I.list hs
  obtain ⟨_, itb, nb, rb, _, eb⟩ := I.lstM hb
  have hus : us = [Value.ref a, Value.ref b] := vals_ref (rs := [a, b]) r
  subst hus
  have hits : its = rs.map Value.ref := vals_ref rv
  subst hits
  have hitb : itb = [] := by cases rb; rfl
  subst hitb
  have ex : ∀ i : Nat, ∃ ys : List Value, ∀ r xs, rs[i]? = some r → xss[i]? = some xs → Vals xs ys ∧ PlainL s.heap r ys.toArray := fun i => by
    cases e : rs[i]? with
    | none => exact ⟨[], fun r xs z => by cases z⟩
    | some r =>
      cases e2 : xss[i]? with
      | none => exact ⟨[], fun _ _ _ z => by cases z⟩
      | some xs =>
        obtain ⟨ys, g1, g2, _⟩ := I.list (hx i r xs e e2)
        exact ⟨ys, fun r' xs' z1 z2 => by cases z1; cases z2; exact ⟨g1, g2⟩⟩
  obtain ⟨rows, hrows⟩ := Classical.axiomOfChoice ex
  have psucc : ∀ i, ((List.range (i + 1)).map rows).flatten = ((List.range i).map rows).flatten ++ rows i := fun i => by
    rw [List.range_succ, List.map_append, List.flatten_append]; simp
  have vpre : ∀ i, i ≤ rs.length → Vals ((xss.take i).flatten) ((List.range i).map rows).flatten := by
    intro i
    induction i with
    | zero => intro _; exact Paired.nil
    | succ i ih =>
      intro hi
      have e1 : rs[i]? = some rs[i] := List.getElem?_eq_getElem (by omega)
      have e2 : xss[i]? = some (xss[i]'(by omega)) := List.getElem?_eq_getElem (by omega)
      rw [psucc, List.take_add_one, e2, List.flatten_append]
      exact (ih (by omega)).append (by simpa using (hrows i _ _ e1 e2).1)
  have hsize : (rs.map Value.ref).toArray.size = rs.length := by simp
  have vfull := vpre rs.length (Nat.le_refl _)
  rw [hl, List.take_length] at vfull
  refine sumL_raw (I.ok.hd hc) (items := (rs.map Value.ref).toArray) (rows := rows) (pre := fun i => ((List.range i).map rows).flatten) hL.isList ⟨nb, eb⟩ (fun i v hv => ?_) rfl (fun i hi => psucc i) (fun i hi => ?_) fun h' tk T' hk hT hd => ?_
  · rw [List.getElem?_toArray, List.getElem?_map] at hv
    obtain ⟨r1, e1, e2⟩ := Option.map_eq_some_iff.mp hv
    have hi := (List.getElem?_eq_some_iff.mp e1).1
    exact ⟨r1, e2.symm, (hrows i r1 _ e1 (List.getElem?_eq_getElem (by omega))).2⟩
  · rw [hsize] at hi
    have h1 := (vpre (i + 1) hi).length
    rw [psucc, List.length_append] at h1
    have h2 : ((xss.take (i + 1)).flatten).length ≤ xss.flatten.length := by
      conv => rhs; rw [← List.take_append_drop (i + 1) xss]
      rw [List.flatten_append, List.length_append]
      omega
    show (((List.range i).map rows).flatten).length + (rows i).length ≤ sizeLine
    omega
  · rcases hd with ⟨e1, e2⟩ | ⟨e1, e2⟩
    · rw [hsize] at e2
      subst e1
      exact ⟨.ref _, H, I.kept hk, rfl, q0 (List.length_eq_zero_iff.mp e2.symm)⟩
    · rw [hsize] at e1 hT
      obtain ⟨n, eT⟩ := hT
      have hT2 : h'.get? T' = some { cls := .type "list", data := .seq ((List.range rs.length).map rows).flatten.toArray n } := eT
      rw [hl] at hT2
      exact ⟨.ref _, upd H T' (.lst xss.flatten), I.laid hk e2 ⟨hz, _, n, vfull, hT2⟩, rfl, q1 (fun z => by rw [z] at e1; exact absurd e1 (by simp)) T' (I.hok.fresh e2)⟩
/-! ### as data -/
def allLst : List D → Option (List (List D))
  | [] => some []
  | .lst ds :: r => match allLst r with
    | some rs => some (ds :: rs)
    | none => none
  | _ :: _ => none
def sumGo : D → Sto → Res (List D)
  | .lst xs, S => match allLst xs with
    | some dss => if dss.flatten.length ≤ 1000000 then .ok dss.flatten S else .stuck
    | none => .stuck
  | _, _ => .stuck
def eSumL (f : EE) : EL := fun env S => ((f env S).bind sumGo).noex
theorem allLst_rp {K : Kt} {F H : Hp} {ι : List Addr} (sm : Same F H) : ∀ {xs : List D} {dss : List (List D)} {vs : List V}, allLst xs = some dss → RpAll K F ι xs vs →
    ∃ (rs : List Addr) (xss : List (List V)), vs = rs.map V.ref ∧ rs.length = xss.length ∧ (∀ (i : Nat) (r : Addr) (ys : List V), rs[i]? = some r → xss[i]? = some ys → SqL K.fr H r ys) ∧ RpAll K F ι dss.flatten xss.flatten ∧ dss.length = xss.length
  | [], dss, vs, e, r => by
    cases e
    cases (show vs = [] from r)
    exact ⟨[], [], rfl, rfl, fun i r ys z => by simp at z, rfl, rfl⟩
  | .lst ds :: xs, dss, vs, e, r => by
    obtain ⟨v, t, rfl, ⟨a, ws, ev, h1, h2, h3⟩, ht⟩ := r
    have e' : (match allLst xs with | some rs => some (ds :: rs) | none => none) = some dss := e
    cases q : allLst xs with
    | none => rw [q] at e'; cases e'
    | some rs0 =>
      rw [q] at e'
      cases e'
      obtain ⟨rs, xss, rfl, g1, g2, g3, g4⟩ := allLst_rp sm q ht
      refine ⟨a :: rs, ws :: xss, by rw [ev]; rfl, by simp [g1], fun i r ys z1 z2 => ?_, ?_, by simp [g4]⟩
      · cases i with
        | zero =>
          cases z1
          cases z2
          exact sm.seq h1
        | succ i => exact g2 i r ys (by simpa using z1) (by simpa using z2)
      · rw [List.flatten_cons, List.flatten_cons]
        exact h3.append g3
  | .non :: _, _, _, e, _ => by cases e
  | .bl _ :: _, _, _, e, _ => by cases e
  | .int _ :: _, _, _, e, _ => by cases e
  | .str _ :: _, _, _, e, _ => by cases e
  | .tup _ :: _, _, _, e, _ => by cases e
  | .dct _ _ :: _, _, _, e, _ => by cases e
  | .mu _ :: _, _, _, e, _ => by cases e
  | .ty _ :: _, _, _, e, _ => by cases e
  | .exn _ _ _ :: _, _, _, e, _ => by cases e
  | .obj _ _ _ :: _, _, _, e, _ => by cases e
theorem n_sumL (hK : kt X = K) (hc : X.calm = true) (hm : X.mg "sum" = none) (ha : PE X e (tD K B f)) (hg : Gl X "sum" := by rfl)
    (h1 : starEach [e, .List [] p2] X.env = (false, eval e X.env) :: starEach [.List [] p2] X.env := by rfl) (h2 : starEach [.List [] p2] X.env = (false, eval (.List [] p2) X.env) :: starEach [] X.env := by rfl) (hpl : (backTo pos (starEach [.List [] p2] X.env)).any (·.1) = false := by rfl) :
    PE X (.Call (.Name "sum" p) [e, .List [] p2] [] pos) (tN K B (eSumL f)) := by
  subst hK
  refine (pe_callB (cr_sumL hc) hg hm rfl (pa_cons ha (pa_cons (n_lst (B := B) (K := kt X) a_nil) pa_nil (hs := h2)) (hs := h1)) (by decide) (by decide) h1 hpl).imp fun σ H Q ⟨F, ι, S, env, st, z0⟩ => ?_
  obtain ⟨zs, S', e0, q⟩ := Post.noex z0
  obtain ⟨x, S1, e1, e2⟩ := Res.bind_ok e0
  refine ⟨F, ι, S, env, st, Post.of_ok e1 fun v1 c1 s1 o1 r1 => ?_⟩
  refine ⟨c1.F, c1.ι, S1, env, st.step s1 o1, Post.of_ok (a := []) (S := S1) rfl fun v2 c2 s2 o2 n2 => ?_⟩
  cases x with
  | lst xs =>
    have e2 : (match allLst xs with
      | some dss => if dss.flatten.length ≤ 1000000 then Res.ok dss.flatten S1 else .stuck
      | none => .stuck) = .ok zs S' := e2
    cases q1 : allLst xs with
    | none => rw [q1] at e2; cases e2
    | some dss =>
      rw [q1] at e2
      have e2 : (if dss.flatten.length ≤ 1000000 then Res.ok dss.flatten S1 else .stuck) = .ok zs S' := e2
      by_cases hz : dss.flatten.length ≤ 1000000
      · rw [if_pos hz] at e2
        cases e2
        obtain ⟨a, vs, ev, g1, g2, g3⟩ := s2.rp r1
        obtain ⟨p3, w3, ev3, a3, b3, d3, r3, f3, i3⟩ := n2
        cases (show w3 = [] from r3)
        obtain ⟨rs, xss, rfl, k1, k2, k3, k4⟩ := allLst_rp o2.f q1 g3
        have hl : xss.flatten.length ≤ sizeLine := by rw [k3.len]; exact sizeM' hz
        refine ⟨a, p3, rs, xss, by rw [ev, ev3], o2.f.seq g1, b3, k1, k2, hl, fun hr => ?_, fun hr p4 hp => ?_⟩
        · have hd : dss.flatten = [] := by
            have : xss = [] := List.length_eq_zero_iff.mp (by rw [← k1, hr]; rfl)
            rw [this] at k4
            rw [List.length_eq_zero_iff.mp k4]
            rfl
          rw [hd] at q
          exact q _ c2 (s1.trans s2) o2 ⟨p3, [], ev3 ▸ rfl, nonadr (K := kt X) s1 a3, b3, d3, rfl, f3, i3⟩
        · obtain ⟨s4, o4, n4⟩ := new_lst o2 hp hl k3
          exact q _ ⟨_, _, _⟩ ((s1.trans s2).trans s4) o4 (n4.from (s1.trans s2))
      · rw [if_neg hz] at e2
        cases e2
  | _ => cases e2
end
end DL

/-! E35: how E33, E34 are evaluated. -/
namespace DL
open PySem PySem.Spec PyProof.Rows L2
/-! ### evaluation -/
section
variable {S : Sto} {env : Env} {f : EE} {l m : EL} {i j : Nat} {nx bk ct : Env → Sto → Prop} {rt : D → Sto → Prop}
@[simp ↓] theorem es_new2 : EvS (sNew2 i j l m env S) nx rt bk ct = Ev (l env S) fun ds S => Ev (m env S) fun es S => withSet env i (some (.own ds)) fun env => withSet env j (some (.own es)) fun env => nx env S := by
  show EvS (Res.bindS _ _ _) nx rt bk ct = _
  rw [evs_bindS]
  congr 1
  funext ds S
  show EvS (Res.bindS _ _ _) nx rt bk ct = _
  rw [evs_bindS]
  congr 1
  funext es S
  exact evs_nx
theorem es_move {fs rs : List D} {k : Nat} {x : D} (hi : env[i]? = some (some (.own fs))) (hj : env[j]? = some (some (.own rs))) (h : Ev (f env S) fun d S => ∃ k : Nat, d = .int (k : Int) ∧ fs.length < 1000000 ∧ rs.length < 1000000 ∧ ∃ x, rs[k]? = some x ∧ nx ((env.set j (some (.own (rs.eraseIdx k)))).set i (some (.own (fs ++ [x])))) S) : EvS (sMove i j f env S) nx rt bk ct := by
  unfold sMove
  rw [hi, hj]
  show EvS (Res.bindS _ _ _) nx rt bk ct
  rw [evs_bindS]
  refine Ev.imp h fun d S ⟨k, e, h1, h2, x, hx, q⟩ => ?_
  subst e
  have hk := (List.getElem?_eq_some_iff.mp hx).1
  have hs : seqIndex? (k : Int) rs.length = some k := by
    unfold seqIndex?
    simp
    omega
  show EvS (match seqIndex? (k : Int) rs.length with
    | some n => (match rs[n]? with
      | some x => if (-(2 ^ 63) ≤ (k : Int) ∧ (k : Int) < 2 ^ 63) ∧ fs.length < 1000000 then Res.ok (Out.nx ((env.set j (some (.own (rs.eraseIdx n)))).set i (some (.own (fs ++ [x]))))) S else .stuck
      | none => .stuck)
    | none => .stuck) nx rt bk ct
  rw [hs]
  show EvS (match rs[k]? with
      | some x => if (-(2 ^ 63) ≤ (k : Int) ∧ (k : Int) < 2 ^ 63) ∧ fs.length < 1000000 then Res.ok (Out.nx ((env.set j (some (.own (rs.eraseIdx k)))).set i (some (.own (fs ++ [x]))))) S else .stuck
      | none => .stuck) nx rt bk ct
  rw [hx]
  show EvS (if (-(2 ^ 63) ≤ (k : Int) ∧ (k : Int) < 2 ^ 63) ∧ fs.length < 1000000 then Res.ok (Out.nx ((env.set j (some (.own (rs.eraseIdx k)))).set i (some (.own (fs ++ [x]))))) S else .stuck) nx rt bk ct
  rw [if_pos ⟨⟨by omega, by omega⟩, h1⟩, evs_nx]
  exact q
end
/-! ### evaluation -/
section
variable {S : Sto} {env : Env} {f : EE} {QL : List D → Sto → Prop}
theorem allLst_map (dss : List (List D)) : allLst (dss.map D.lst) = some dss := by
  induction dss with
  | nil => rfl
  | cons x r ih =>
    show (match allLst (r.map D.lst) with | some rs => some (x :: rs) | none => none) = _
    rw [ih]
@[simp ↓] theorem ev_eSumL : Ev (eSumL f env S) QL = Ev (f env S) fun x S => Ev (sumGo x S) QL := by
  unfold eSumL
  rw [Ev.noex, Ev.bind]
theorem ev_sumGo {dss : List (List D)} (h : dss.flatten.length ≤ 1000000) : Ev (sumGo (.lst (dss.map D.lst)) S) QL = QL dss.flatten S := by
  show Ev (match allLst (dss.map D.lst) with | some dss => if dss.flatten.length ≤ 1000000 then Res.ok dss.flatten S else .stuck | none => .stuck) QL = _
  rw [allLst_map]
  show Ev (if dss.flatten.length ≤ 1000000 then Res.ok dss.flatten S else .stuck) QL = _
  rw [if_pos h, ev_ok]
end
end DL

set_option maxHeartbeats 4000000
/-! E36: defs with defaults; constants of texts; x not in one; text.upper(). -/
namespace DL
open PySem PySem.Spec PyProof.Rows L2
/-! ### defs with defaults -/
section
variable {P : Program} {w : World} {K : PySem.W.Frag} {mg : Str → Option Value} {base : Heap}
theorem fn_dataD {x qual : Str} {st : Stmt} {f : Addr} {fd : FuncData} {N ps : List Str} {k : Nat} {b : SS} {dvs : List V} (F : FunD K x qual (defArgs st) (defBody st) (defScope st) dvs [] f fd) (S : FnScope N ps (defScope st))
    (hb : ∀ (cdv : Value) (A : Around) (outer : List PySem.Env) (s : Shared) (H : Hp) (E : XK) (B : Bg), B.W = (fun cls d _ H' => E cls d H') → Room k (A.deeper (envOfC qual (defScope st) s.heap.objs.size f cdv)) → Takes (cxOf (L2.CX P w) P w K mg base N qual (defScope st) f cdv A outer s H E) B.W →
      PassesOwn (model P w) (cxOf (L2.CX P w) P w K mg base N qual (defScope st) f cdv A outer s H E).A (cxOf (L2.CX P w) P w K mg base N qual (defScope st) f cdv A outer s H E).env (cxOf (L2.CX P w) P w K mg base N qual (defScope st) f cdv A outer s H E).xe →
      PSs (cxOf (L2.CX P w) P w K mg base N qual (defScope st) f cdv A outer s H E) (defBody st) (tK ⟨K, mg⟩ B b)) : FnOk P w K mg base (L2.CX P w) (k + 1) f fd ps (spD ⟨K, mg⟩ ps.length (runD N.length b)) := by
  refine F.ok S (fun vs H Q E h => h.1) (fun cdv A outer s H vs Q E hr h => ?_)
  obtain ⟨hl, F0, ι, S0, ds, ok, r, z⟩ := h
  refine ⟨_, hb cdv A outer s H E ⟨⟨F0, ι, H⟩, fun cls d _ H' => E cls d H'⟩ rfl hr (takes_of rfl rfl rfl rfl) (passes_of rfl), F0, ι, S0, _, start_ok ok r, ?_⟩
  unfold runD at z
  split at z
  · rename_i d' S'' e1
    exact ⟨_, _, e1, fun v c' s o r => z v c' s o r⟩
  · rename_i env' S'' e1
    exact ⟨_, _, e1, fun σ' c' st ad => z .non c' st.st st.ok rfl⟩
  · rename_i x' env' S'' e1
    exact ⟨_, _, e1, fun σ' c' cls dx st h => z c' cls dx st.st st.ok h⟩
  · exact z.elim
theorem bindsD_all {x qual : Str} {params : Arguments} {body : List Stmt} {scope : Scope} {dvs : List V} {f : Addr} {fd : FuncData} {ps : List Str} (F : FunD K x qual params body scope dvs [] f fd) (hd : dvs ≠ [])
    (h : ∀ (T : Addr) (kV doc pm : Value) (an : Option Addr) (cdv ct : Value) (us its : List Value), us.length = ps.length → its.length = dvs.length →
      ∃ k, bindArgs (PySem.W.fnOf x qual params body scope (.ref T) kV doc pm an cdv ct) ⟨us, []⟩ = seqItems? (.ref T) >>= k ∧ k (some its.toArray) = pure (ps.zip us)) : Binds K fd ps [] := by
  obtain ⟨ds, r, hb⟩ := F.binds1 (ps := ps) ps.length dvs.length hd (by omega) fun T kV doc pm an cdv ct us its h1 h2 => by
    obtain ⟨k, e1, e2⟩ := h T kV doc pm an cdv ct us its h1 h2
    exact ⟨k, e1, by rw [e2, ← h2, List.drop_length, List.append_nil]⟩
  rw [List.drop_length] at r
  cases r
  exact hb
theorem kbinds_ofD {x qual : Str} {params : Arguments} {body : List Stmt} {scope : Scope} {dvs : List V} {f : Addr} {fd : FuncData} {ps ks : List Str} {m n : Nat} {π : List Nat} (F : FunD K x qual params body scope dvs [] f fd) (hd : dvs ≠ []) (h0 : ps ≠ [])
    (h : ∀ (T : Addr) (kV doc pm : Value) (an : Option Addr) (cdv ct : Value) (us ws its : List Value), us.length = m → ws.length = n → its.length = dvs.length →
      ∃ k, bindArgs (PySem.W.fnOf x qual params body scope (.ref T) kV doc pm an cdv ct) ⟨us, ks.zip ws⟩ = seqItems? (.ref T) >>= k ∧ k (some its.toArray) = pure (ps.zip (gK m n π us ws))) : KBinds K fd ps ks (gK m n π) (gK m n π) where
  to := fun s us ws X hl => by
    by_cases hc : us.length = m ∧ ws.length = n
    · obtain ⟨oc, od, dV, kV, doc, pm, an, cdv, ct, osl, rfl, lk, hcd, hD, hK⟩ := F.ex
      rcases hD with ⟨e, _⟩ | ⟨_, T, o, its, m2, rfl, lT, oT, rT⟩
      · exact absurd e hd
      · obtain ⟨k, e1, e2⟩ := h T kV doc pm an cdv ct us ws its hc.1 hc.2 rT.length.symm
        refine BindsTo.of_looks fun M => ?_
        rw [e1]
        exact looks_items X lT oT (.of_pure e2)
    · unfold gK at hl
      rw [if_neg hc] at hl
      exact absurd (List.length_eq_zero_iff.mp hl.symm) h0
  rel := fun {vs us zs ws} h1 h2 => by
    have e1 := h1.length
    have e2 := h2.length
    unfold gK
    rw [e1, e2]
    split
    · exact Vals.pick (h1.append h2) π
    · exact .nil
end
/-- with what is missing -/
def eApp (l : EL) (dd : List D) : EL := fun env S => (l env S).bind fun ds S => .ok (ds ++ dd) S
section
variable {X : Cx} {k n : Nat} {f : Addr} {fd : FuncData} {ps : List Str} {x : Str} {p pos : Pos} {e : Expr} {es : List Expr} {K : Kt} {B : Bg} {φ : List D → Sto → Res D} {l : EL} {dvs : List V} {dd : List D}
theorem d_callD (tk : Takes X B.W) (F : FnOk X.prog X.w X.K X.mg X.base (L2.CX X.prog X.w) k f fd ps (spD K n φ)) (hr : Room k X.A) (hg : Gl X x) (hm : X.mg x = some (.ref f)) (hk : PySem.W.keepIn X.K (.ref f) = true) (hb : ∃ ds, Vals dvs ds ∧ Binds X.K fd ps ds) (hdd : ∀ F ι, RpAll K F ι dd dvs)
    (ha : PA X (e :: es) (tA K B l)) (hn : (e :: es).length + dd.length = n) (hla : ∀ env S ds S', l env S = .ok ds S' → ds.length = (e :: es).length) (hdb : (x == ("__debug__" : Str)) = false := by decide) (he : starEach (e :: es) X.env = (false, eval e X.env) :: starEach es X.env := by rfl) (hpl : (backTo pos (starEach es X.env)).any (·.1) = false := by rfl) :
    PE X (.Call (.Name x p) (e :: es) [] pos) (tD K B (eCall φ (eApp l dd))) := by
  obtain ⟨ds0, hd0, hb⟩ := hb
  refine (pe_callSD (E := fun σ cls d H' => B.W cls d σ H') F hr hg hm hk hb hd0 (fun σ => passAt tk σ) ha hdb he hpl).imp fun σ H Q ⟨F, ι, S, env, st, z0⟩ => ?_
  have z0 : Post (((l env S).bind fun ds S => Res.ok (ds ++ dd) S).bind fun ds S => φ ds S) _ (ExK K B σ env) := z0
  rw [Post.bind_eq] at z0
  refine ⟨F, ι, S, env, st, Post.bind_impE (f := fun ds S => Res.ok (ds ++ dd) S) z0 fun ds S1 e1 z1 vs c1 s1 o1 r1 => ?_⟩
  show spD K n φ (vs ++ dvs) c1.H Q _
  have ra := r1.append (hdd c1.F c1.ι)
  refine ⟨by rw [ra.len, List.length_append, hla _ _ _ _ e1, hn], c1.F, c1.ι, S1, ds ++ dd, o1, ra, Post.impE z1 (fun d S' q v c' s o r => q v c' (s1.trans s) o r) fun x S' q c' cls dx s o h => ?_⟩
  exact q c' cls dx (st.step (s1.trans s) o) h
end
/-! ### constants of texts -/
theorem rp_strs {K : Kt} {F : Hp} {ι : List Addr} : ∀ ss : List Str, RpAll K F ι (ss.map D.str) (ss.map V.str)
  | [] => rfl
  | x :: r => ⟨.str x, r.map V.str, rfl, rfl, rp_strs r⟩
def TupG (K : PySem.W.Frag) (mg : Str → Option Value) (x : Str) (ss : List Str) : Prop := ∃ (T : Addr) (o : Obj) (its : Array Value) (n : Nat), mg x = some (.ref T) ∧ K.lookup T = some o ∧ o.cls = .type "tuple" ∧ o.data = .seq its n ∧ its.size ≤ 1000 ∧ Vals (ss.map V.str) its.toList
section
variable {X : Cx} {B : Bg} {a b : Expr} {f g : EE} {pos : Pos} {x : Str} {ss : List Str}
theorem d_gtup (h : TupG X.K X.mg x ss) (hg : Gl X x := by rfl) (hd : (x == ("__debug__" : Str)) = false := by decide) : PE X (.Name x pos) (tD (kt X) B (eC (.tup (ss.map D.str)))) := by
  obtain ⟨T, o, its, n, h1, h2, h3, h4, h5, h6⟩ := h
  have hl : (ss.map V.str).length ≤ sizeLine := by
    rw [h6.length, Array.length_toList]
    exact Nat.le_trans h5 (by decide)
  exact d_glob (v := .ref T) hg h1 rfl (fun F ι => ⟨T, ss.map V.str, rfl, .inr ⟨o, its, n, h2, h3, h4, Nat.le_trans h5 (by decide), h6⟩, hl, rp_strs ss⟩) hd
/-! ### x not in a tuple of flat things -/
def fV : D → Option V
  | .non => some .non
  | .bl b => some (.bl b)
  | .int i => some (.int i)
  | .str s => some (.str s)
  | _ => none
theorem fV_rp {K : Kt} {F : Hp} {ι : List Addr} {d : D} {v y : V} (h : fV d = some y) (r : Rp K F ι d v) : v = y ∧ flatV y = true := by
  cases d <;> first
    | (cases h; exact ⟨r, rfl⟩)
    | (cases h)
def fVs : List D → Option (List V)
  | [] => some []
  | d :: ds => match fV d, fVs ds with
    | some v, some vs => some (v :: vs)
    | _, _ => none
theorem fVs_rp {K : Kt} {F : Hp} {ι : List Addr} : ∀ {ds : List D} {vs ys : List V}, fVs ds = some ys → RpAll K F ι ds vs → vs = ys ∧ ys.all flatV = true
  | [], vs, ys, h, r => by
    cases h
    exact ⟨r, rfl⟩
  | d :: ds, vs, ys, h, r => by
    obtain ⟨v, t, rfl, r1, r2⟩ := r
    have h' : (match fV d, fVs ds with | some v, some vs => some (v :: vs) | _, _ => none) = some ys := h
    cases e1 : fV d with
    | none => rw [e1] at h'; cases h'
    | some y =>
      cases e2 : fVs ds with
      | none => rw [e1, e2] at h'; cases h'
      | some zs =>
        rw [e1, e2] at h'
        cases h'
        obtain ⟨rfl, f1⟩ := fV_rp e1 r1
        obtain ⟨rfl, f2⟩ := fVs_rp e2 r2
        exact ⟨rfl, by rw [List.all_cons, f1, f2]; rfl⟩
def oNotInF : Op2 := fun x y S => match y with
  | .tup ds => (match fV x, fVs ds with
    | some v, some vs => .ok (.bl (!inV v vs)) S
    | _, _ => .stuck)
  | _ => .stuck
theorem od_notinF {K : Kt} : OpD K (rIn K.fr true) oNotInF := by
  intro B c S S' x y dx dy d ok hx hy e Q q
  cases dy with
  | tup ds =>
    have e : (match fV dx, fVs ds with | some v, some vs => Res.ok (D.bl (!inV v vs)) S | _, _ => .stuck) = .ok d S' := e
    cases e1 : fV dx with
    | none => rw [e1] at e; cases e
    | some v =>
      cases e2 : fVs ds with
      | none => rw [e1, e2] at e; cases e
      | some vs =>
        rw [e1, e2] at e
        cases e
        have hx' : Rp K c.F c.ι dx x := by
          rcases hx with h | ⟨es, e3, _⟩
          · exact h
          · rw [e3] at e1; cases e1
        rcases hy with h | ⟨es, e3, _⟩
        · obtain ⟨a, ws, ea, h1, _, h3⟩ := h
          obtain ⟨rfl, f1⟩ := fV_rp e1 hx'
          obtain ⟨rfl, f2⟩ := fVs_rp e2 h3
          exact ⟨a, ws, ea, .inr (same_t ok.f h1), f1, f2, q _ c (Step.refl c) ok rfl⟩
        · cases e3
  | _ => cases e
theorem c_notinF (ha : PE X a (tB (kt X) B f)) (hb : PE X b (tB (kt X) B g)) (hm : behindInMarks .NotIn b = false := by rfl) : PE X (.Compare a [.NotIn] [b] pos) (tD (kt X) B (eBin oNotInF f g)) := d_cmp op_notIn_seq od_notinF ha hb hm
theorem q_notinF (ha : PE X a (tB (kt X) B f)) (hb : PE X b (tB (kt X) B g)) (hm : behindInMarks .NotIn b = false := by rfl) : PT X (.Compare a [.NotIn] [b] pos) (tT (kt X) B (eTst (eBin oNotInF f g))) := t_cmp op_notIn_seq od_notinF ha hb hm
/-! ### text.upper() -/
def upGo : D → Sto → Res D
  | .str s, S => if s.length ≤ 5592405 then .ok (.str (Txt.upper s)) S else .stuck
  | _, _ => .stuck
def eUp (f : EE) : EE := fun env S => ((f env S).bind upGo).noex
theorem d_up {apos : Pos} {K : Kt} (ho : PE X a (tD K B f)) (hbase : attributeBase a "upper" X.env (eval a X.env) = eval a X.env := by rfl) (hline : (apos.endLine == pos.line) = true := by rfl) : PE X (.Call (.Attribute a "upper" apos) [] [] pos) (tD K B (eUp f)) := (pe_upper ho hbase hline).imp fun σ H Q ⟨F, ι, S, env, st, z0⟩ => by
  obtain ⟨d, S', e0, q⟩ := Post.noex z0
  obtain ⟨x, S1, e1, e2⟩ := Res.bind_ok e0
  refine ⟨F, ι, S, env, st, Post.of_ok e1 fun v1 c1 s1 o1 r1 => ?_⟩
  cases x with
  | str s =>
    have e2 : (if s.length ≤ 5592405 then Res.ok (D.str (Txt.upper s)) S1 else .stuck) = .ok d S' := e2
    by_cases hz : s.length ≤ 5592405
    · rw [if_pos hz] at e2
      cases e2
      exact ⟨⟨s, r1⟩, s, r1, rfl, hz, q _ c1 s1 o1 rfl⟩
    · rw [if_neg hz] at e2
      cases e2
  | _ => cases e2
end
end DL

set_option maxHeartbeats 4000000
/-! E37: repr of data in which empty dicts stand. -/
namespace DL
open PySem PySem.Spec PyProof.Rows L2
/-- the dict of the loaded modules stands -/
def SMb (base : Heap) : Prop := ∃ o es n, base.get? sysModules = some o ∧ o.cls = .type "dict" ∧ o.data = .dict es n
mutual
def pyD : D → PyData
  | .non => .none
  | .bl b => .bool b
  | .int i => .int i
  | .str x => .str x
  | .lst xs => .list (pyDs xs)
  | .tup xs => .tuple (pyDs xs)
  | .dct _ _ => .dict []
  | .mu _ => .none
  | .ty _ => .none
  | .exn _ _ _ => .none
  | .obj _ _ _ => .none
def pyDs : List D → List PyData
  | [] => []
  | d :: ds => pyD d :: pyDs ds
end
mutual
def plD : D → Bool
  | .non => true
  | .bl _ => true
  | .int _ => true
  | .str _ => true
  | .lst xs => plDs xs
  | .tup xs => plDs xs
  | .dct ks xs => ks.isEmpty && xs.isEmpty
  | .mu _ => false
  | .ty _ => false
  | .exn _ _ _ => false
  | .obj _ _ _ => false
def plDs : List D → Bool
  | [] => true
  | d :: ds => plD d && plDs ds
end
section
variable {X : Cx} {pins : List (Addr × Obj)} {σ : St} {s : Shared} {c : Bas}
theorem not_sm (I : Inv X pins σ c.H s) (sm : SMb X.base) {a : Addr} {o : Obj} (e : s.heap.get? a = some o) (hc : o.cls ≠ .type "dict") : a ≠ sysModules := fun z => by
  obtain ⟨o', es, n, e1, e2, _⟩ := sm
  rw [z, I.bk _ _ e1] at e
  cases e
  exact hc e2
mutual
theorem Rp.readsD (I : Inv X pins σ c.H s) (sf : Same c.F c.H) (sm : SMb X.base) : ∀ (d : D) (v : V) (u : Value), plD d = true → Rp (kt X) c.F c.ι d v → RelV v u → ∃ as, Reads s.heap u (pyD d) as ∧ sysModules ∉ as
  | .non, v, u, _, h, r => by
    cases (show v = .non from h)
    cases r
    exact ⟨_, Reads.none, by simp⟩
  | .bl b, v, u, _, h, r => by
    cases (show v = .bl b from h)
    cases r
    exact ⟨_, Reads.bool b, by simp⟩
  | .int i, v, u, _, h, r => by
    cases (show v = .int i from h)
    obtain ⟨t, rfl⟩ := r
    exact ⟨_, Reads.int i t, by simp⟩
  | .str x, v, u, _, h, r => by
    cases (show v = .str x from h)
    obtain ⟨t, rfl⟩ := r
    exact ⟨_, Reads.str x t, by simp⟩
  | .lst xs, v, u, hp, h, r => by
    obtain ⟨a, vs, rfl, h1, _, h3⟩ := h
    cases r
    obtain ⟨its, rv, ⟨o, n, ho, hc, _, hd⟩, _⟩ := I.list (sf.seq h1)
    obtain ⟨as, hr, hn⟩ := RpAll.readsD I sf sm xs vs its hp h3 rv
    exact ⟨_, Reads.list ho hc hd hr, fun z => (List.mem_cons.mp z).elim (fun e => not_sm I sm ho (by rw [hc]; decide) e.symm) hn⟩
  | .tup xs, v, u, hp, h, r => by
    obtain ⟨a, vs, rfl, h1, _, h3⟩ := h
    cases r
    obtain ⟨its, rv, ⟨o, ho, hc, n, hd⟩, _⟩ := I.tuple (same_t sf h1)
    obtain ⟨as, hr, hn⟩ := RpAll.readsD I sf sm xs vs its hp h3 rv
    have na : a ≠ sysModules := not_sm I sm ho (by rw [hc]; decide)
    exact ⟨_, Reads.tuple ho hc hd hr, by simpa [na.symm] using hn⟩
  | .dct ks xs, v, u, hp, h, r => by
    have hp' : (ks.isEmpty && xs.isEmpty) = true := hp
    rw [Bool.and_eq_true, List.isEmpty_iff, List.isEmpty_iff] at hp'
    obtain ⟨rfl, rfl⟩ := hp'
    obtain ⟨a, vs, rfl, h1, h3⟩ := h
    cases r
    rcases h1 with ⟨kvs, e, ek, _⟩ | ⟨kvs, e, ek, _⟩
    · have hk : kvs = [] := List.map_eq_nil_iff.mp ek.symm
      subst hk
      obtain ⟨_, hne, vs', hkv, o, es, n, ho, hx, hd, _, hpr, _⟩ := dk_of I.hok (sf _ _ e)
      cases hkv
      have hes : es.toList = [] := by
        clear hd
        generalize es.toList = l at hpr ⊢
        cases hpr
        rfl
      refine ⟨_, Reads.dict (kvs := []) ho hx.1 hd (by rw [hes]; exact ReadsAll.nil) (by rw [hes]; exact ReadsAll.nil), fun z => ?_⟩
      have z' : sysModules = a := by simpa using z
      rw [z'] at hne
      simp at hne
    · have hk : kvs = [] := List.map_eq_nil_iff.mp ek.symm
      subst hk
      obtain ⟨_, hne, vs', hkv, o, es, n, ho, hx, hd, hpr, _⟩ := (show ObjOk X.prog X.w c.H s.heap a (.dT []) from I.hok a _ (sf _ _ e))
      cases hkv
      have hes : es.toList = [] := hpr
      refine ⟨_, Reads.dict (kvs := []) ho hx.1 hd (by rw [hes]; exact ReadsAll.nil) (by rw [hes]; exact ReadsAll.nil), fun z => ?_⟩
      have z' : sysModules = a := by simpa using z
      rw [z'] at hne
      simp at hne
  | .mu _, _, _, hp, _, _ => by cases hp
  | .ty _, _, _, hp, _, _ => by cases hp
  | .exn _ _ _, _, _, hp, _, _ => by cases hp
  | .obj _ _ _, _, _, hp, _, _ => by cases hp
theorem RpAll.readsD (I : Inv X pins σ c.H s) (sf : Same c.F c.H) (sm : SMb X.base) : ∀ (ds : List D) (vs : List V) (us : List Value), plDs ds = true → RpAll (kt X) c.F c.ι ds vs → Vals vs us → ∃ as, ReadsAll s.heap us (pyDs ds) as ∧ sysModules ∉ as
  | [], vs, us, _, h, r => by
    cases (show vs = [] from h)
    cases r
    exact ⟨_, ReadsAll.nil, by simp⟩
  | d :: ds, vs, us, hp, h, r => by
    have hp' : (plD d && plDs ds) = true := hp
    rw [Bool.and_eq_true] at hp'
    obtain ⟨v, t, rfl, h1, h2⟩ := h
    cases r with
    | cons r1 r2 =>
      obtain ⟨as, q1, n1⟩ := Rp.readsD I sf sm d v _ hp'.1 h1 r1
      obtain ⟨bs, q2, n2⟩ := RpAll.readsD I sf sm ds t _ hp'.2 h2 r2
      exact ⟨_, ReadsAll.cons q1 q2, fun z => (List.mem_append.mp z).elim n1 n2⟩
end
end
/-- it can be shown -/
def showD (d : D) : Bool := plD d && ((pyD d).showable && (decide ((pyD d).depth ≤ 40) && decide ((pyD d).shown.length ≤ 1000000)))
theorem showD_ok {d : D} (h : showD d = true) : plD d = true ∧ (pyD d).showable = true ∧ (pyD d).depth ≤ 40 ∧ (pyD d).shown.length ≤ sizeLine := by
  unfold showD at h
  simp only [Bool.and_eq_true, decide_eq_true_eq] at h
  obtain ⟨h1, h2, h3, h4⟩ := h
  exact ⟨h1, h2, h3, Nat.le_trans h4 (by decide)⟩
def reprGoD : D → Sto → Res D
  | .lst xs, S => if showD (.lst xs) = true then .ok (.str (pyD (.lst xs)).shown) S else .stuck
  | .tup xs, S => if showD (.tup xs) = true then .ok (.str (pyD (.tup xs)).shown) S else .stuck
  | _, _ => .stuck
def eReprD (f : EE) : EE := fun env S => ((f env S).bind fun d S => reprGoD d S).noex
/-- data of the heap's own state, told at the value -/
def rReprF (X : Cx) : List V → Hp → VK → Prop := fun xs H Q => ∃ (F : Hp) (ι : List Addr) (a : Addr) (d : D), xs = [.ref a] ∧ Same F H ∧ Rp (kt X) F ι d (.ref a) ∧ plD d = true ∧ (pyD d).showable = true ∧ (pyD d).depth ≤ 40 ∧ (pyD d).shown.length ≤ sizeLine ∧ Q (.str (pyD d).shown) H
theorem call_reprF {X : Cx} (sm : SMb X.base) (hg : X.A.guards = some []) (hu : X.A.units + 65 < cLine) : CallR X (.builtin "repr") (rReprF X) := by
  intro pins s σ H xs us Q I r h
  obtain ⟨F, ι, a, d, rfl, sf, rp, h1, h2, h3, h4, q⟩ := h
  obtain ⟨u, rfl, r1⟩ := vals1 r
  obtain ⟨as, rd, hn⟩ := Rp.readsD (c := ⟨F, ι, H⟩) I sf sm d (.ref a) u h1 rp r1
  cases r1
  exact repr_of_reads' rd h2 (fun _ => hn) hg (by omega) (fun _ _ e => e) (fun h' t tk hk => ⟨.str (pyD d).shown, H, I.kept (t' := tk) hk, ⟨t, rfl⟩, q⟩) h4
section
variable {X : Cx} {K : Kt} {B : Bg} {e : Expr} {f : EE} {p pos : Pos} {x : Str}
theorem d_reprD (hK : kt X = K) (sm : SMb X.base) (hgd : X.A.guards = some []) (hu : X.A.units + 65 < cLine) (hg : Gl X x) (hm : X.mg x = none) (hv : bootBuiltins x = some (.builtin "repr")) (he : PE X e (tD K B f))
    (hn : x ≠ "__name__" := by decide) (hdb : (x == ("__debug__" : Str)) = false := by decide)
    (hs : starEach [e] X.env = (false, eval e X.env) :: starEach [] X.env := by rfl) (hpl : (backTo pos (starEach [] X.env)).any (·.1) = false := by rfl) : PE X (.Call (.Name x p) [e] [] pos) (tD K B (eReprD f)) := by
  subst hK
  refine (pe_callB (call_reprF sm hgd hu) hg hm hv (pa_cons he pa_nil (hs := hs)) hn hdb hs hpl).imp fun σ H Q ⟨F, ι, S, env, st, z0⟩ => ?_
  obtain ⟨d, S', e0, q⟩ := Post.noex z0
  obtain ⟨d1, S1, e1, e2⟩ := Res.bind_ok e0
  refine ⟨F, ι, S, env, st, Post.of_ok e1 fun v c1 s1 o1 r1 => ?_⟩
  have key : ∃ a, v = .ref a ∧ showD d1 = true ∧ d = .str (pyD d1).shown ∧ S' = S1 := by
    cases d1 with
    | lst xs =>
      have e2 : (if showD (.lst xs) = true then Res.ok (D.str (pyD (.lst xs)).shown) S1 else .stuck) = .ok d S' := e2
      by_cases hc : showD (.lst xs) = true
      · rw [if_pos hc] at e2
        cases e2
        obtain ⟨a, vs, ea, _⟩ := r1
        exact ⟨a, ea, hc, rfl, rfl⟩
      · rw [if_neg hc] at e2
        cases e2
    | tup xs =>
      have e2 : (if showD (.tup xs) = true then Res.ok (D.str (pyD (.tup xs)).shown) S1 else .stuck) = .ok d S' := e2
      by_cases hc : showD (.tup xs) = true
      · rw [if_pos hc] at e2
        cases e2
        obtain ⟨a, vs, ea, _⟩ := r1
        exact ⟨a, ea, hc, rfl, rfl⟩
      · rw [if_neg hc] at e2
        cases e2
    | _ => cases e2
  obtain ⟨a, ev, hc, ed, eS⟩ := key
  subst ed
  subst eS
  obtain ⟨h1, h2, h3, h4⟩ := showD_ok hc
  subst ev
  exact ⟨c1.F, c1.ι, a, d1, rfl, o1.f, r1, h1, h2, h3, h4, q _ c1 s1 o1 rfl⟩
end
end DL

set_option maxHeartbeats 4000000
/-! E38: the end, by the head of EH. -/
namespace DL
open PySem PySem.Spec PyProof.Rows L2 He
/-! ### a def -/
theorem def_at {K : PySem.W.Frag} {x qual : Str} {params : Arguments} {body : List Stmt} {scope : Scope} {f : Addr} {fd : FuncData} {kws : List (Str × V)} (F : FunD K x qual params body scope [] kws f fd) :
    ∃ (oc : Value) (od : Option Addr) (kV doc pm : Value) (an : Option Addr) (cdv ct : Value) (osl : Array (Option Value)), K.lookup f = some ⟨oc, od, .func (PySem.W.fnOf x qual params body scope .none kV doc pm an cdv ct), osl⟩ ∧ PySem.W.codeIn K cdv qual = true ∧ PySem.W.keepIn K (.ref f) = true := by
  obtain ⟨oc, od, dV, kV, doc, pm, an, cdv, ct, osl, rfl, lk, hcd, hD, _⟩ := F.ex
  rcases hD with ⟨_, rfl⟩ | ⟨e, _⟩
  · exact ⟨oc, od, kV, doc, pm, an, cdv, ct, osl, lk, hcd, F.kp⟩
  · exact absurd rfl e
section
variable {fa : List Fa} {fn : List DefD} {tf : List Defn} {ins : List InitD} {ex : PySem.W.Frag → Bool} {sm : Bool} {w : World} {h : Heap} {K : PySem.W.Frag}
theorem SaysZ.def0 (c : SaysZ fa fn tf ins ex sm w h K) (i : Nat) {d : DefD} (e : fn[i]? = some d := by rfl) : ∃ fd, FunD K d.name d.qual d.params d.body d.scope (d.dvs K) (d.kws K) (fAd K d.at_) fd := SaysD.def_ c.x.t.d i e
theorem SaysZ.tup (c : SaysZ fa fn tf ins ex sm w h K) (X : K.In h) {mg : Str → Option Value} (G : h.Ns mainGlobals mg) (i : Nat) {x : Str} {ss : List Str} (e : fa[i]? = some (.glo x) := by rfl) (t : tupB K x (ss.map Dv.str) = true) (hl : ss.length ≤ 1000) : TupG K mg x ss := by
  unfold tupB at t
  split at t
  · rename_i c0 dd its n sl q
    obtain ⟨t1, t⟩ := ba t
    obtain ⟨t2, t3⟩ := ba t
    have e1 : c0 = "tuple" := of_decide_eq_true t1
    have r := relAll_ok t3
    have hm : (ss.map Dv.str).map (Dv.v K) = ss.map V.str := by rw [List.map_map]; rfl
    rw [hm] at r
    have hz : its.size ≤ 1000 := by
      have h1 := r.length
      rw [List.length_map] at h1
      have h2 : its.toList.length = its.size := Array.length_toList
      omega
    exact ⟨ga K x, _, its, n, PySem.W.mg_of X G (c.glo i e), q, by rw [e1], rfl, hz, r⟩
  · cases t
end
/-- the end, K found by the head -/
theorem walkTE {l : PySem.W.OpenLaw} {n : Nat} {q : Program} {loose : List Str} {XP : (Str → Option Value) → Heap → Prop} {YP : World → Heap → Prop} {d : DefRec} {x : Str}
    (hn : l.most = some n) (hn2 : n ≤ sizeLine) (hdf : d.params.defaults = [])
    (F : ∀ (w : World) (mg : Str → Option Value) (fa : Addr) (h : Heap), YP w h → h.Ns mainGlobals mg → mg d.name = some (.ref fa) → ∃ K : PySem.W.Frag, K.In h ∧ TopAt l w K n x mg fa h) :
    PySem.W.WalkO q loose XP YP l.row.toRowW d [] (fun f vs => PySem.call f vs) := by
  refine Att.attach_callB hn hdf fun w s0 s1 mg mb fa o pm cd doc a vs ns G Y ho hd hcd hmg hobj hints hlen hbits hg => ?_
  obtain ⟨K, KX, fd, cs, sp, hT, nT, C, hb, hsp, hF⟩ := F w mg fa _ Y G.T.g hmg
  exact top_call KX G.T.g G.T.b G.T.builtins G.T.nolimit hg hT nT C G.T.bmain hobj hints (Nat.le_trans hlen hn2) hF hb (fun H hH hS => hsp H a ns hlen hH hS)
end DL

namespace DL
open PySem PySem.Spec PyProof.Rows L2
def rsd : List Str := ["BadNumber", "BadEntry"]
def fl_most : List Str := []
def fl_what : List Str := []
def fl_word : List Str := []
def fl_line : List Str := []
def fl_value : List Str := ["BadNumber", "BadEntry"]
def fl_part : List Str := []
def fl_name : List Str := []
def b_is_integer : SS := (sRet (eAnd (eIsi "int" (eVb 0)) (eNot (eIsi "bool" (eVb 0)))))
def φ_is_integer : List D → Sto → Res D := runD 1 b_is_integer
theorem e_is_integer {x0 : D} {S : Sto} {Q : D → Sto → Prop} : Ev (φ_is_integer [x0] S) Q = EvS (b_is_integer [some (.sh x0)] S) (fun _ S => Q .non S) Q (fun _ _ => False) (fun _ _ => False) := ev_runD
def b_is_between : SS := (sRet (eAnd (eCall0 φ_is_integer (eCons (eV 0) eNil)) (eChain oLe oLe (eVb 1) (eVb 0) (eVb 2))))
def φ_is_between : List D → Sto → Res D := runD 3 b_is_between
theorem e_is_between {x0 x1 x2 : D} {S : Sto} {Q : D → Sto → Prop} : Ev (φ_is_between [x0, x1, x2] S) Q = EvS (b_is_between [some (.sh x0), some (.sh x1), some (.sh x2)] S) (fun _ S => Q .non S) Q (fun _ _ => False) (fun _ _ => False) := ev_runD
def b_is_listed : SS := (sRet (eIsi2 "list" "tuple" (eVb 0)))
def φ_is_listed : List D → Sto → Res D := runD 1 b_is_listed
theorem e_is_listed {x0 : D} {S : Sto} {Q : D → Sto → Prop} : Ev (φ_is_listed [x0] S) Q = EvS (b_is_listed [some (.sh x0)] S) (fun _ S => Q .non S) Q (fun _ _ => False) (fun _ _ => False) := ev_runD
def b_number_in : SS := (sSeq (sSet 2 (eLst (eComp (iD (eV 0)) (gTp 2 (gsCons (gN 3) (gsCons (gN 4) gsNil))) (eTst (eBin oLe (eVb 3) (eVb 1))) (eV 4) [3, 4])))
    (sRet (eIf (eTru (eVb 2)) (eBin oIx (eVb 2) (eNeg (eC (.int 1)))) (eC .non))))
def φ_number_in : List D → Sto → Res D := runD 5 b_number_in
theorem e_number_in {x0 x1 : D} {S : Sto} {Q : D → Sto → Prop} : Ev (φ_number_in [x0, x1] S) Q = EvS (b_number_in [some (.sh x0), some (.sh x1), none, none, none] S) (fun _ S => Q .non S) Q (fun _ _ => False) (fun _ _ => False) := ev_runD
def b_is_pair_of : SS := (sSeq (sIf (eOrT (eNotT (eTru (eCall0 φ_is_listed (eCons (eV 0) eNil)))) (eTst (eBin oNe (eBlt bLen (eCons (eVb 0) eNil)) (eC (.int 2))))) (sRet (eC (.bl false))) sNil)
    (sRet (eAnd (eCall0 φ_is_between (eCons (eBin oIx (eVb 0) (eC (.int 0))) (eCons (eC (.int 1)) (eCons (eC (.int 1000000)) eNil)))) (eCall0 φ_is_between (eCons (eBin oIx (eVb 0) (eC (.int 1))) (eCons (eV 1) (eCons (eV 2) eNil)))))))
def φ_is_pair_of : List D → Sto → Res D := runD 3 b_is_pair_of
theorem e_is_pair_of {x0 x1 x2 : D} {S : Sto} {Q : D → Sto → Prop} : Ev (φ_is_pair_of [x0, x1, x2] S) Q = EvS (b_is_pair_of [some (.sh x0), some (.sh x1), some (.sh x2)] S) (fun _ S => Q .non S) Q (fun _ _ => False) (fun _ _ => False) := ev_runD
def b_fixed_stair : SS := (sRet (eBlt bTuple (eCons (eLst (eComp (iD (eV 0)) (gN 1) eYes (eTup (eCons (eBin oIx (eVb 1) (eC (.int 0))) (eCons (eBin oIx (eVb 1) (eC (.int 1))) eNil))) [1])) eNil)))
def φ_fixed_stair : List D → Sto → Res D := runD 2 b_fixed_stair
theorem e_fixed_stair {x0 : D} {S : Sto} {Q : D → Sto → Prop} : Ev (φ_fixed_stair [x0] S) Q = EvS (b_fixed_stair [some (.sh x0), none] S) (fun _ S => Q .non S) Q (fun _ _ => False) (fun _ _ => False) := ev_runD
def b_need_count : SS := (sIf (eNotT (eTru (eCall0 φ_is_between (eCons (eV 0) (eCons (eC (.int 0)) (eCons (eV 1) eNil)))))) (sRaise "BadNumber" ["value"] (eCons (eV 0) eNil)) sNil)
def φ_need_count : List D → Sto → Res D := runD 2 b_need_count
theorem e_need_count {x0 x1 : D} {S : Sto} {Q : D → Sto → Prop} : Ev (φ_need_count [x0, x1] S) Q = EvS (b_need_count [some (.sh x0), some (.sh x1)] S) (fun _ S => Q .non S) Q (fun _ _ => False) (fun _ _ => False) := ev_runD
def b_need_limit : SS := (sIf (eNotT (eTru (eCall0 φ_is_between (eCons (eV 0) (eCons (eC (.int 1)) (eCons (eC (.int 1000000)) eNil)))))) (sRaise "BadNumber" ["value"] (eCons (eV 0) eNil)) sNil)
def φ_need_limit : List D → Sto → Res D := runD 1 b_need_limit
theorem e_need_limit {x0 : D} {S : Sto} {Q : D → Sto → Prop} : Ev (φ_need_limit [x0] S) Q = EvS (b_need_limit [some (.sh x0)] S) (fun _ S => Q .non S) Q (fun _ _ => False) (fun _ _ => False) := ev_runD
def b_is_stair : SS := (sSeq (sIf (eOrT (eNotT (eTru (eCall0 φ_is_listed (eCons (eV 0) eNil)))) (eNotT (eTru (eBlt bAll (eCons (eLst (eComp (iD (eV 0)) (gN 1) eYes (eCall0 φ_is_pair_of (eCons (eV 1) (eCons (eC (.int 0)) (eCons (eC (.int 1000000)) eNil)))) [1])) eNil))))) (sRet (eC (.bl false))) sNil)
    (sSeq (sIf (eNotT (eTru (eBlt bAll (eCons (eLst (eComp (iD (eV 0)) (gTp 2 (gsCons (gN 2) (gsCons (gN 3) gsNil))) eYes (eBin oLe (eVb 3) (eVb 2)) [2, 3])) eNil)))) (sRet (eC (.bl false))) sNil)
    (sRet (eBlt bAll (eCons (eLst (eComp (iZi (eV 0) (eSl (eVb 0) (oSo (eC (.int 1))) oNo)) (gTp 2 (gsCons (gN 4) (gsCons (gN 5) gsNil))) eYes (eAnd (eBin oLt (eBin oIx (eVb 4) (eC (.int 0))) (eBin oIx (eVb 5) (eC (.int 0)))) (eBin oGt (eBin oIx (eVb 4) (eC (.int 1))) (eBin oIx (eVb 5) (eC (.int 1))))) [4, 5])) eNil)))))
def φ_is_stair : List D → Sto → Res D := runD 6 b_is_stair
theorem e_is_stair {x0 : D} {S : Sto} {Q : D → Sto → Prop} : Ev (φ_is_stair [x0] S) Q = EvS (b_is_stair [some (.sh x0), none, none, none, none, none] S) (fun _ S => Q .non S) Q (fun _ _ => False) (fun _ _ => False) := ev_runD
def b_fixed_entry : SS := (sRet (eTup (eCons (eBin oIx (eVb 0) (eC (.int 0))) (eCons (eCall0 φ_fixed_stair (eCons (eBin oIx (eVb 0) (eC (.int 1))) eNil)) eNil))))
def φ_fixed_entry : List D → Sto → Res D := runD 1 b_fixed_entry
theorem e_fixed_entry {x0 : D} {S : Sto} {Q : D → Sto → Prop} : Ev (φ_fixed_entry [x0] S) Q = EvS (b_fixed_entry [some (.sh x0)] S) (fun _ S => Q .non S) Q (fun _ _ => False) (fun _ _ => False) := ev_runD
def b_worth_in : SS := (sSeq (sSet 3 (eCall0 φ_number_in (eCons (eBin oIx (eVb 0) (eC (.int 1))) (eCons (eV 1) eNil))))
    (sRet (eIf (eAndT (eTst (eBin oIsNot (eVb 3) (eC .non))) (eTst (eBin oLe (eVb 3) (eBin oSub (eVb 1) (eVb 2))))) (eBin oIx (eVb 0) (eC (.int 0))) (eC (.str "drawn")))))
def φ_worth_in : List D → Sto → Res D := runD 4 b_worth_in
theorem e_worth_in {x0 x1 x2 : D} {S : Sto} {Q : D → Sto → Prop} : Ev (φ_worth_in [x0, x1, x2] S) Q = EvS (b_worth_in [some (.sh x0), some (.sh x1), some (.sh x2), none] S) (fun _ S => Q .non S) Q (fun _ _ => False) (fun _ _ => False) := ev_runD
def b_is_entry : SS := (sSeq (sIf (eOrT (eNotT (eTru (eCall0 φ_is_listed (eCons (eV 0) eNil)))) (eOrT (eTst (eBin oNe (eBlt bLen (eCons (eVb 0) eNil)) (eC (.int 2)))) (eOrT (eNotT (eTru (eIsi "str" (eBin oIx (eVb 0) (eC (.int 0)))))) (eTst (eBin oNotInF (eBin oIx (eVb 0) (eC (.int 0))) (eC (.tup (List.map D.str (["drawn", "won", "lost"] : List Str))))))))) (sRet (eC (.bl false))) sNil)
    (sRet (eAnd (eCall0 φ_is_stair (eCons (eBin oIx (eVb 0) (eC (.int 1))) eNil)) (eBin oEq (eBin oEq (eBlt bLen (eCons (eBin oIx (eVb 0) (eC (.int 1))) eNil)) (eC (.int 0))) (eBin oEq (eBin oIx (eVb 0) (eC (.int 0))) (eC (.str "drawn")))))))
def φ_is_entry : List D → Sto → Res D := runD 1 b_is_entry
theorem e_is_entry {x0 : D} {S : Sto} {Q : D → Sto → Prop} : Ev (φ_is_entry [x0] S) Q = EvS (b_is_entry [some (.sh x0)] S) (fun _ S => Q .non S) Q (fun _ _ => False) (fun _ _ => False) := ev_runD
def b_need_entry : SS := (sSeq (sIf (eNotT (eTru (eCall0 φ_is_entry (eCons (eV 0) eNil)))) (sRaise "BadEntry" ["value"] (eCons (eV 0) eNil)) sNil)
    (sRet (eCall0 φ_fixed_entry (eCons (eV 0) eNil))))
def φ_need_entry : List D → Sto → Res D := runD 1 b_need_entry
theorem e_need_entry {x0 : D} {S : Sto} {Q : D → Sto → Prop} : Ev (φ_need_entry [x0] S) Q = EvS (b_need_entry [some (.sh x0)] S) (fun _ S => Q .non S) Q (fun _ _ => False) (fun _ _ => False) := ev_runD
def b_worth : SS := (sSeq (sSet 3 (eCall φ_need_entry (eCons (eV 0) eNil)))
    (sSeq (sDrop (eCall φ_need_limit (eCons (eV 1) eNil)))
    (sSeq (sDrop (eCall φ_need_count (eCons (eV 2) (eCons (eV 1) eNil))))
    (sRet (eCall0 φ_worth_in (eCons (eV 3) (eCons (eV 1) (eCons (eV 2) eNil))))))))
def φ_worth : List D → Sto → Res D := runD 4 b_worth
theorem e_worth {x0 x1 x2 : D} {S : Sto} {Q : D → Sto → Prop} : Ev (φ_worth [x0, x1, x2] S) Q = EvS (b_worth [some (.sh x0), some (.sh x1), some (.sh x2), none] S) (fun _ S => Q .non S) Q (fun _ _ => False) (fun _ _ => False) := ev_runD
def b__law_pen : SS := (sRet (eMu (eDsp (eCons (eLst (eComp (iD (eSl (eVb 0) oNo (oSo (eC (.int 63))))) (gN 1) eYes (eBlt bInt (eCons (eVb 1) eNil)) [1])) (eCons (eC (.int 0)) (eCons (eC (.int 0)) eNil))))))
def φ__law_pen : List D → Sto → Res D := runD 2 b__law_pen
theorem e__law_pen {x0 : D} {S : Sto} {Q : D → Sto → Prop} : Ev (φ__law_pen [x0] S) Q = EvS (b__law_pen [some (.sh x0), none] S) (fun _ S => Q .non S) Q (fun _ _ => False) (fun _ _ => False) := ev_runD
def b__law_draw : SS := (sSeq (sIf (eTst (eBin oGt (eBin oIx (eVb 0) (eC (.int 2))) (eC (.int 0)))) (sSeq (sSet 2 (eBlt bInt (eCons (eBin oIx (eVb 0) (eC (.int 2))) eNil)))
    (sSeq (sStore (eBin oFdiv (eVb 2) (eVb 1)) (eV 0) (eC (.int 2)))
    (sRet (eBin oMod (eBlt bInt (eCons (eVb 2) eNil)) (eVb 1))))) sNil)
    (sSeq (sSet 3 (eBin oIx (eVb 0) (eC (.int 1))))
    (sSeq (sStore (eBin oAdd (eVb 3) (eC (.int 1))) (eV 0) (eC (.int 1)))
    (sSeq (sSet 4 (eBin oAdd (eBin oMul (eC (.int 57793)) (eVb 3)) (eC (.int 31013))))
    (sSeq (sIf (eTst (eBin oNe (eBin oIx (eVb 0) (eC (.int 0))) (eLst (eDsp eNil)))) (sSet 4 (eBin oIx (eBin oIx (eVb 0) (eC (.int 0))) (eBin oMod (eBlt bInt (eCons (eVb 3) eNil)) (eBlt bLen (eCons (eBin oIx (eVb 0) (eC (.int 0))) eNil))))) sNil)
    (sSeq (sIf (eAndT (eTst (eBin oLt (eVb 3) (eBlt bLen (eCons (eBin oIx (eVb 0) (eC (.int 0))) eNil)))) (eTst (eBin oGe (eBlt bAbs (eCons (eVb 4) eNil)) (eBin oPow (eC (.int 10)) (eC (.int 18)))))) (sSeq (sSet 2 (eBin oAdd (eBin oMul (eC (.int 2)) (eBin oSub (eBlt bAbs (eCons (eVb 4) eNil)) (eBin oPow (eC (.int 10)) (eC (.int 18))))) (eBlt bInt (eCons (eBin oLt (eVb 4) (eC (.int 0))) eNil))))
    (sSeq (sStore (eBin oFdiv (eBlt bInt (eCons (eVb 2) eNil)) (eVb 1)) (eV 0) (eC (.int 2)))
    (sRet (eBin oMod (eBlt bInt (eCons (eVb 2) eNil)) (eVb 1))))) sNil)
    (sSeq (sSet 5 (eBin oMod (eBlt bInt (eCons (eBin oPow (eBin oAdd (eBin oAdd (eBin oMod (eBlt bInt (eCons (eVb 4) eNil)) (eC (.int 2147483549))) (eBin oMul (eC (.int 84653)) (eVb 3))) (eC (.int 2203))) (eC (.int 5))) eNil)) (eC (.int 2147483563))))
    (sSeq (sSet 5 (eBin oMod (eBlt bInt (eCons (eBin oPow (eBin oAdd (eBin oAdd (eBin oMul (eVb 5) (eBin oAdd (eBin oMul (eC (.int 2)) (eVb 3)) (eC (.int 2203)))) (eBin oMul (eBin oMul (eC (.int 57793)) (eVb 3)) (eVb 3))) (eC (.int 84653))) (eC (.int 3))) eNil)) (eC (.int 2147483587))))
    (sRet (eBin oMod (eBlt bInt (eCons (eBin oFdiv (eVb 5) (eC (.int 64))) eNil)) (eVb 1)))))))))))
def φ__law_draw : List D → Sto → Res D := runD 6 b__law_draw
theorem e__law_draw {x0 x1 : D} {S : Sto} {Q : D → Sto → Prop} : Ev (φ__law_draw [x0, x1] S) Q = EvS (b__law_draw [some (.sh x0), some (.sh x1), none, none, none, none] S) (fun _ S => Q .non S) Q (fun _ _ => False) (fun _ _ => False) := ev_runD
def b__law_pick : SS := (sRet (eBin oIx (eVb 1) (eCall0 φ__law_draw (eCons (eV 0) (eCons (eBlt bLen (eCons (eVb 1) eNil)) eNil)))))
def φ__law_pick : List D → Sto → Res D := runD 2 b__law_pick
theorem e__law_pick {x0 x1 : D} {S : Sto} {Q : D → Sto → Prop} : Ev (φ__law_pick [x0, x1] S) Q = EvS (b__law_pick [some (.sh x0), some (.sh x1)] S) (fun _ S => Q .non S) Q (fun _ _ => False) (fun _ _ => False) := ev_runD
def b__law_heard_one : SS := (sSeq (sSet 1 (eLst (eDsp (eCons (eC (.str "name")) (eCons (eC (.str "number")) (eCons (eC (.str "cell")) (eCons (eC (.str "side")) (eCons (eC (.str "letter")) (eCons (eC (.str "ply")) (eCons (eC (.str "key")) (eCons (eC (.str "entry")) eNil)))))))))))
    (sSeq (sSet 2 (eLst (eDsp (eCons (eIsX rsd "BadName" (eV 0)) (eCons (eIsX rsd "BadNumber" (eV 0)) (eCons (eIsX rsd "BadCell" (eV 0)) (eCons (eIsX rsd "BadSide" (eV 0)) eNil)))))))
    (sSeq (sSet 2 (eLst (eCatB (eVb 2) (eDsp (eCons (eIsX rsd "BadLetter" (eV 0)) (eCons (eIsX rsd "BadPly" (eV 0)) (eCons (eIsX rsd "BadKey" (eV 0)) (eCons (eIsX rsd "BadEntry" (eV 0)) eNil))))))))
    (sSeq (sIf (eTst (eBin oIn (eC (.bl true)) (eVb 2))) (sRet (eTup (eCons (eBin oIx (eVb 1) (eIdx (eVb 2) (eC (.bl true)))) (eCons (eFld fl_value "value" (eV 0)) eNil)))) sNil)
    (sSeq (sSet 1 (eLst (eDsp (eCons (eC (.str "game")) (eCons (eC (.str "standing")) (eCons (eC (.str "class")) (eCons (eC (.str "stair")) (eCons (eC (.str "table")) (eCons (eC (.str "book")) (eCons (eC (.str "value")) (eCons (eC (.str "paper")) (eCons (eC (.str "unlike")) (eCons (eC (.str "nothing")) eNil)))))))))))))
    (sSeq (sSet 2 (eLst (eDsp (eCons (eIsX rsd "BadGame" (eV 0)) (eCons (eIsX rsd "BadStanding" (eV 0)) (eCons (eIsX rsd "BadClass" (eV 0)) (eCons (eIsX rsd "BadStair" (eV 0)) eNil)))))))
    (sSeq (sSet 2 (eLst (eCatB (eVb 2) (eDsp (eCons (eIsX rsd "BadTable" (eV 0)) (eCons (eIsX rsd "BadBook" (eV 0)) (eCons (eIsX rsd "BadValue" (eV 0)) (eCons (eIsX rsd "BadPaper" (eV 0)) eNil))))))))
    (sSeq (sSet 2 (eLst (eCatB (eVb 2) (eDsp (eCons (eIsX rsd "Unlike" (eV 0)) (eCons (eIsX rsd "Nothing" (eV 0)) eNil))))))
    (sSeq (sIf (eTst (eBin oIn (eC (.bl true)) (eVb 2))) (sRet (eTup (eCons (eBin oIx (eVb 1) (eIdx (eVb 2) (eC (.bl true)))) (eCons (eFld fl_part "part" (eV 0)) eNil)))) sNil)
    (sSeq sStuck
    (sRet (eIf (eTru (eIsX rsd "BadWay" (eV 0))) (eTup (eCons (eC (.str "way")) (eCons (eFld fl_name "name" (eV 0)) eNil))) (eTup (eCons (eC (.str "word")) (eCons (eFld fl_word "word" (eV 0)) eNil)))))))))))))))
def φ__law_heard_one : List D → Sto → Res D := runD 3 b__law_heard_one
theorem e__law_heard_one {x0 : D} {S : Sto} {Q : D → Sto → Prop} : Ev (φ__law_heard_one [x0] S) Q = EvS (b__law_heard_one [some (.sh x0), none, none] S) (fun _ S => Q .non S) Q (fun _ _ => False) (fun _ _ => False) := ev_runD
def b__law_heard (f0 : Addr) (act : Sto → Res D) : SS := (sSeq (sAsgT (gTp 2 (gsCons (gN 1) (gsCons (gN 2) gsNil))) (eTup (eCons (eC .non) (eCons (eC .non) eNil))))
    (sSeq (sTry 3 (fun k => rsd.contains k) (sSet 1 (eAsk 0 f0 act)) (sSet 2 (eV 3)))
    (sSeq (sIf (eTst (eBin oIs (eVb 2) (eC .non))) (sRet (eLst (eDsp (eCons (eV 1) eNil)))) sNil)
    (sSeq (sIf (eTru (eIsX rsd "TooMany" (eV 2))) (sRet (eTup (eCons (eC (.str "many")) (eCons (eFld fl_what "what" (eV 2)) (eCons (eFld fl_most "most" (eV 2)) eNil))))) sNil)
    (sSeq (sIf (eTru (eIsX rsd "BadText" (eV 2))) (sRet (eTup (eCons (eC (.str "text")) (eCons (eFld fl_line "line" (eV 2)) (eCons (eFld fl_word "word" (eV 2)) eNil))))) sNil)
    (sRet (eCall0 φ__law_heard_one (eCons (eV 2) eNil))))))))
def psiX (c : Str) (ns : List Str) (xs : List D) (S : Sto) : Res D := if c = "BadNumber" ∧ ns = (["value"] : List Str) then (match xs with | [d0] => .ok (.tup [.str "number", d0]) S | _ => .stuck) else if c = "BadEntry" ∧ ns = (["value"] : List Str) then (match xs with | [d0] => .ok (.tup [.str "entry", d0]) S | _ => .stuck) else .stuck
def ψ__law_heard (act : Sto → Res D) (S : Sto) : Res D := psiGo psiX (act S)
def b__law_number : SS := (sRet (eBin oIx (eLst (eCatN (eDsp (eCons (eC .non) eNil)) (eComp (iD (eV 0)) (gTp 2 (gsCons (gN 2) (gsCons (gN 3) gsNil))) (eTst (eBin oLe (eVb 2) (eVb 1))) (eV 3) [2, 3]))) (eNeg (eC (.int 1)))))
def φ__law_number : List D → Sto → Res D := runD 4 b__law_number
theorem e__law_number {x0 x1 : D} {S : Sto} {Q : D → Sto → Prop} : Ev (φ__law_number [x0, x1] S) Q = EvS (b__law_number [some (.sh x0), some (.sh x1), none, none] S) (fun _ S => Q .non S) Q (fun _ _ => False) (fun _ _ => False) := ev_runD
def b__law_by_limits : SS := (sSeq (sNew 2 (eDsp eNil))
    (sSeq (sFor (iRg2 (eC (.int 1)) (eBin oAdd (eVb 1) (eC (.int 1)))) (gN 3) (sSeq (sSet 4 (eLst (eComp (iD (eV 0)) (gTp 2 (gsCons (gN 5) (gsCons (gN 6) gsNil))) (eAndT (eTst (eBin oLe (eVb 5) (eVb 3))) (eTst (eBin oLe (eVb 6) (eVb 3)))) (eV 6) [5, 6])))
    (sApp 2 (eIf (eTst (eBin oNe (eVb 4) (eLst (eDsp eNil)))) (eBlt bMin (eCons (eVb 4) eNil)) (eC .non)))))
    (sFrz 2 (sRet (eV 2)))))
def φ__law_by_limits : List D → Sto → Res D := runD 7 b__law_by_limits
theorem e__law_by_limits {x0 x1 : D} {S : Sto} {Q : D → Sto → Prop} : Ev (φ__law_by_limits [x0, x1] S) Q = EvS (b__law_by_limits [some (.sh x0), some (.sh x1), none, none, none, none, none] S) (fun _ S => Q .non S) Q (fun _ _ => False) (fun _ _ => False) := ev_runD
def b__law_of_limits : SS := (sSeq (sNew 1 (eDsp eNil))
    (sSeq (sFor (iD (eLst (eListEn (eLst (eCatN (eDsp (eCons (eC .non) eNil)) (eBltN bList (eCons (eVb 0) eNil))))))) (gTp 2 (gsCons (gN 2) (gsCons (gN 3) gsNil))) (sIf (eAndT (eTst (eBin oIsNot (eVb 3) (eC .non))) (eAndT (eTst (eBin oLe (eVb 3) (eVb 2))) (eOrT (eTst (eBin oEq (eVb 1) (eLst (eDsp eNil)))) (eTst (eBin oLt (eVb 3) (eBin oIx (eBin oIx (eVb 1) (eNeg (eC (.int 1)))) (eC (.int 1)))))))) (sApp 1 (eTup (eCons (eV 2) (eCons (eV 3) eNil)))) sNil))
    (sRet (eBlt bTuple (eCons (eVb 1) eNil)))))
def φ__law_of_limits : List D → Sto → Res D := runD 4 b__law_of_limits
theorem e__law_of_limits {x0 : D} {S : Sto} {Q : D → Sto → Prop} : Ev (φ__law_of_limits [x0] S) Q = EvS (b__law_of_limits [some (.sh x0), none, none, none] S) (fun _ S => Q .non S) Q (fun _ _ => False) (fun _ _ => False) := ev_runD
def b__law_pairs : SS := (sRet (eLst (eComp (iRg1 (eCall0 φ__law_pick (eCons (eV 0) (eCons (eLst (eDsp (eCons (eC (.int 0)) (eCons (eC (.int 1)) (eCons (eC (.int 1)) (eCons (eC (.int 2)) (eCons (eC (.int 3)) (eCons (eC (.int 4)) (eCons (eC (.int 5)) eNil))))))))) eNil)))) (gN 2) eYes (eTup (eCons (eBin oAdd (eC (.int 1)) (eCall0 φ__law_draw (eCons (eV 0) (eCons (eV 1) eNil)))) (eCons (eCall0 φ__law_draw (eCons (eV 0) (eCons (eBin oAdd (eVb 1) (eC (.int 1))) eNil))) eNil))) [2])))
def φ__law_pairs : List D → Sto → Res D := runD 3 b__law_pairs
theorem e__law_pairs {x0 x1 : D} {S : Sto} {Q : D → Sto → Prop} : Ev (φ__law_pairs [x0, x1] S) Q = EvS (b__law_pairs [some (.sh x0), some (.sh x1), none] S) (fun _ S => Q .non S) Q (fun _ _ => False) (fun _ _ => False) := ev_runD
def b__law_most : SS := (sRet (eBin oAdd (eC (.int 3)) (eBlt bMax (eCons (eLst (eCatN (eDsp (eCons (eC (.int 0)) eNil)) (eComp (iD (eV 0)) (gN 1) (eTst (eBin oGt (eBlt bLen (eCons (eVb 1) eNil)) (eC (.int 0)))) (eBlt bMax (eCons (eLst (eComp (iD (eV 1)) (gN 2) eYes (eBlt bMax (eCons (eVb 2) eNil)) [2])) eNil)) [1]))) eNil))))
def φ__law_most : List D → Sto → Res D := runD 3 b__law_most
theorem e__law_most {x0 : D} {S : Sto} {Q : D → Sto → Prop} : Ev (φ__law_most [x0] S) Q = EvS (b__law_most [some (.sh x0), none, none] S) (fun _ S => Q .non S) Q (fun _ _ => False) (fun _ _ => False) := ev_runD
def b__law_stair : SS := (sSeq (sSet 2 (eCall0 φ__law_pairs (eCons (eV 0) (eCons (eV 1) eNil))))
    (sRet (eCall0 φ__law_of_limits (eCons (eCall0 φ__law_by_limits (eCons (eV 2) (eCons (eCall0 φ__law_most (eCons (eLst (eDsp (eCons (eV 2) eNil))) eNil)) eNil))) eNil))))
def φ__law_stair : List D → Sto → Res D := runD 3 b__law_stair
theorem e__law_stair {x0 x1 : D} {S : Sto} {Q : D → Sto → Prop} : Ev (φ__law_stair [x0, x1] S) Q = EvS (b__law_stair [some (.sh x0), some (.sh x1), none] S) (fun _ S => Q .non S) Q (fun _ _ => False) (fun _ _ => False) := ev_runD
def b__law_some_stair : SS := (sSeq (sSet 2 (eCall0 φ__law_stair (eCons (eV 0) (eCons (eV 1) eNil))))
    (sRet (eIf (eTst (eBin oNe (eVb 2) (eTup eNil))) (eV 2) (eTup (eCons (eTup (eCons (eBin oAdd (eC (.int 1)) (eCall0 φ__law_draw (eCons (eV 0) (eCons (eV 1) eNil)))) (eCons (eC (.int 1)) eNil))) eNil)))))
def φ__law_some_stair : List D → Sto → Res D := runD 3 b__law_some_stair
theorem e__law_some_stair {x0 x1 : D} {S : Sto} {Q : D → Sto → Prop} : Ev (φ__law_some_stair [x0, x1] S) Q = EvS (b__law_some_stair [some (.sh x0), some (.sh x1), none] S) (fun _ S => Q .non S) Q (fun _ _ => False) (fun _ _ => False) := ev_runD
def b__law_own_worth : SS := (sSeq (sSet 3 (eCall0 φ__law_number (eCons (eBin oIx (eVb 0) (eC (.int 1))) (eCons (eV 1) eNil))))
    (sRet (eIf (eOrT (eTst (eBin oIs (eVb 3) (eC .non))) (eTst (eBin oGt (eBin oAdd (eVb 3) (eVb 2)) (eVb 1)))) (eC (.str "drawn")) (eBin oIx (eVb 0) (eC (.int 0))))))
def φ__law_own_worth : List D → Sto → Res D := runD 4 b__law_own_worth
theorem e__law_own_worth {x0 x1 x2 : D} {S : Sto} {Q : D → Sto → Prop} : Ev (φ__law_own_worth [x0, x1, x2] S) Q = EvS (b__law_own_worth [some (.sh x0), some (.sh x1), some (.sh x2), none] S) (fun _ S => Q .non S) Q (fun _ _ => False) (fun _ _ => False) := ev_runD
def b_law : SS := (sSeq (sSet 1 (eCall0 φ__law_pen (eCons (eV 0) eNil)))
    (sSeq (sFor (iRg1 (eC (.int 16))) (gN 2) (sSeq (sSet 3 (eCall0 φ__law_pick (eCons (eV 1) (eCons (eLst (eDsp (eCons (eC (.str "won")) (eCons (eC (.str "lost")) (eCons (eC (.str "drawn")) eNil))))) eNil))))
    (sSeq (sSet 4 (eIf (eTst (eBin oEq (eVb 3) (eC (.str "drawn")))) (eTup eNil) (eCall0 φ__law_some_stair (eCons (eV 1) (eCons (eC (.int 8)) eNil)))))
    (sSeq (sSet 5 (eTup (eCons (eV 3) (eCons (eV 4) eNil))))
    (sSeq (sIf (eOrT (eTst (eBin oIsNotB (eCall0 φ_is_entry (eCons (eV 5) eNil)) (eC (.bl true)))) (eTst (eBin oIsNotB (eCallK φ_is_entry 0 1 [0] eNil (eCons (eLst (eDsp (eCons (eV 3) (eCons (eLst (eComp (iD (eV 4)) (gN 6) eYes (eLst (eBltN bList (eCons (eVb 6) eNil))) [6])) eNil)))) eNil)) (eC (.bl true))))) (sRet (eC (.bl false))) sNil)
    (sSeq (sSet 7 (eCall0 φ__law_pick (eCons (eV 1) (eCons (eLst (eDsp (eCons (eTup (eCons (eV 3) (eCons (eC .non) eNil))) (eCons (eTup (eCons (eV 3) (eCons (eTup (eCons (eTup (eCons (eC (.int 1)) (eCons (eC (.int 2)) eNil))) eNil)) eNil))) (eCons (eTup (eCons (eV 3) eNil)) (eCons (eTup (eCons (eV 3) (eCons (eV 4) (eCons (eC (.int 0)) eNil)))) (eCons (eTup (eCons (eUp (eV 3)) (eCons (eV 4) eNil))) (eCons (eTup (eCons (eV 4) (eCons (eV 3) eNil))) (eCons (eC .non) (eCons (eC (.int 5)) (eCons (eV 3) (eCons eDct0 (eCons (eTup (eCons (eC .non) (eCons (eV 4) eNil))) (eCons (eTup (eCons (eLst (eDsp (eCons (eV 3) eNil))) (eCons (eV 4) eNil))) eNil)))))))))))))) eNil))))
    (sSeq (sSet 7 (eCall0 φ__law_pick (eCons (eV 1) (eCons (eLst (eDsp (eCons (eV 7) (eCons (eTup (eCons (eV 3) (eCons (eIf (eTst (eBin oEq (eVb 3) (eC (.str "drawn")))) (eTup (eCons (eTup (eCons (eC (.int 1)) (eCons (eC (.int 0)) eNil))) eNil)) (eTup eNil)) eNil))) (eCons (eTup (eCons (eC (.str "win")) (eCons (eV 4) eNil))) (eCons (eTup (eCons (eV 3) (eCons (eTup (eCons (eC .non) eNil)) eNil))) (eCons (eTup (eCons (eV 3) (eCons (eTup (eCons (eTup (eCons (eC (.bl true)) (eCons (eC (.int 0)) eNil))) eNil)) eNil))) (eCons (eTup (eCons (eV 3) (eCons (eTup (eCons (eTup (eCons (eC (.int 0)) (eCons (eC (.int 0)) eNil))) eNil)) eNil))) eNil)))))))) eNil))))
    (sSeq (sIf (eTst (eBin oIsNotB (eCall0 φ_is_entry (eCons (eV 7) eNil)) (eC (.bl false)))) (sRet (eC (.bl false))) sNil)
    (sSeq (sFor (iRg1 (eC (.int 6))) (gN 8) (sSeq (sSet 9 (eBin oAdd (eC (.int 1)) (eCall0 φ__law_draw (eCons (eV 1) (eCons (eC (.int 14)) eNil)))))
    (sSeq (sSet 10 (eCall0 φ__law_draw (eCons (eV 1) (eCons (eBin oAdd (eVb 9) (eC (.int 1))) eNil))))
    (sIf (eOrT (eTst (eBin oNe (eCall φ_worth (eCons (eV 5) (eCons (eV 9) (eCons (eV 10) eNil)))) (eCall0 φ__law_own_worth (eCons (eV 5) (eCons (eV 9) (eCons (eV 10) eNil)))))) (eTst (eBin oNe (eCallK φ_worth 0 3 [2, 1, 0] eNil (eCons (eV 10) (eCons (eV 9) (eCons (eLst (eBltN bList (eCons (eVb 5) eNil))) eNil)))) (eCall φ_worth (eCons (eV 5) (eCons (eV 9) (eCons (eV 10) eNil))))))) (sRet (eC (.bl false))) sNil))))
    (sSeq (sIf (eOrT (eTst (eBin oNe (eCall φ_worth (eApp (eCons (eV 5) (eCons (eC (.int 9)) eNil)) [.int 0])) (eCall0 φ__law_own_worth (eCons (eV 5) (eCons (eC (.int 9)) (eCons (eC (.int 0)) eNil)))))) (eTst (eBin oNe (eCall φ_worth (eCons (eV 5) (eCons (eBin oPow (eC (.int 10)) (eC (.int 6))) (eCons (eBin oPow (eC (.int 10)) (eC (.int 6))) eNil)))) (eIf (eOrT (eTst (eBin oEq (eVb 4) (eTup eNil))) (eTst (eBin oGt (eBin oIx (eBin oIx (eVb 4) (eNeg (eC (.int 1)))) (eC (.int 1))) (eC (.int 0))))) (eC (.str "drawn")) (eV 3))))) (sRet (eC (.bl false))) sNil)
    (sSeq (sAsgT (gTp 2 (gsCons (gN 11) (gsCons (gN 12) gsNil))) (eTup (eCons (eCall0 φ__law_pick (eCons (eV 1) (eCons (eLst (eDsp (eCons (eC .non) (eCons (eC (.int 0)) (eCons (eBin oAdd (eBin oPow (eC (.int 10)) (eC (.int 6))) (eC (.int 1))) (eCons (eC (.bl true)) (eCons (eC (.str "1")) (eCons (eNeg (eC (.int 1))) eNil)))))))) eNil))) (eCons (eCall0 φ__law_pick (eCons (eV 1) (eCons (eLst (eDsp (eCons (eC .non) (eCons (eNeg (eC (.int 1))) (eCons (eC (.int 6)) (eCons (eC (.bl true)) (eCons (eC (.str "0")) eNil))))))) eNil))) eNil))))
    (sSeq (sSet 13 (eLst (eDsp (eCons (eHeard ψ__law_heard (eCall φ_worth (eCons (eV 7) (eCons (eV 11) (eCons (eV 12) eNil))))) (eCons (eHeard ψ__law_heard (eCall φ_worth (eCons (eV 5) (eCons (eV 11) (eCons (eV 12) eNil))))) (eCons (eHeard ψ__law_heard (eCall φ_worth (eCons (eV 5) (eCons (eC (.int 5)) (eCons (eV 12) eNil))))) eNil))))))
    (sIf (eTst (eBin oNe (eReprD (eV 13)) (eReprD (eLst (eDsp (eCons (eTup (eCons (eC (.str "entry")) (eCons (eV 7) eNil))) (eCons (eTup (eCons (eC (.str "number")) (eCons (eV 11) eNil))) (eCons (eTup (eCons (eC (.str "number")) (eCons (eV 12) eNil))) eNil)))))))) (sRet (eC (.bl false))) sNil)))))))))))))
    (sRet (eAnd (eBin oIsB (eCall0 φ_is_entry (eCons (eTup (eCons (eC (.str "won")) (eCons (eTup (eCons (eTup (eCons (eC (.int 1)) (eCons (eC (.int 0)) eNil))) eNil)) eNil))) eNil)) (eC (.bl true))) (eAnd (eBin oEq (eCall φ_worth (eCons (eTup (eCons (eC (.str "lost")) (eCons (eTup (eCons (eTup (eCons (eC (.int 1)) (eCons (eC (.int 0)) eNil))) eNil)) eNil))) (eCons (eC (.int 4)) (eCons (eC (.int 4)) eNil)))) (eC (.str "lost"))) (eBin oEq (eCall φ_worth (eCons (eTup (eCons (eC (.str "lost")) (eCons (eTup (eCons (eTup (eCons (eC (.int 1)) (eCons (eC (.int 1)) eNil))) eNil)) eNil))) (eCons (eC (.int 4)) (eCons (eC (.int 4)) eNil)))) (eC (.str "drawn"))))))))
def φ_law : List D → Sto → Res D := runD 14 b_law
theorem e_law {x0 : D} {S : Sto} {Q : D → Sto → Prop} : Ev (φ_law [x0] S) Q = EvS (b_law [some (.sh x0), none, none, none, none, none, none, none, none, none, none, none, none, none] S) (fun _ S => Q .non S) Q (fun _ _ => False) (fun _ _ => False) := ev_runD
end DL

namespace DL
open PySem PySem.Spec PyProof.Rows L2
/-! the pen's parts, with whatever stands behind it -/
section
variable {a b c d : D} {R S : Sto} {env : Env} {f : EE} {Q : D → Sto → Prop} {nx bk ct : Env → Sto → Prop} {rt : D → Sto → Prop}
@[simp ↓ high] theorem muR_0 : Ev (oIx (.mu 0) (.int 0) ([a, b, c] :: R)) Q = Q a ([a, b, c] :: R) := Ev.of rfl
@[simp ↓ high] theorem muR_1 : Ev (oIx (.mu 0) (.int 1) ([a, b, c] :: R)) Q = Q b ([a, b, c] :: R) := Ev.of rfl
@[simp ↓ high] theorem muR_2 : Ev (oIx (.mu 0) (.int 2) ([a, b, c] :: R)) Q = Q c ([a, b, c] :: R) := Ev.of rfl
def withPen1 (d : D) (S : Sto) (k : Sto → Prop) : Prop := match S with | [a, _, c] :: R => k ([a, d, c] :: R) | _ => False
def withPen2 (d : D) (S : Sto) (k : Sto → Prop) : Prop := match S with | [a, b, _] :: R => k ([a, b, d] :: R) | _ => False
@[simp ↓] theorem wp1 {k : Sto → Prop} : withPen1 d ([a, b, c] :: R) k = k ([a, d, c] :: R) := rfl
@[simp ↓] theorem wp2 {k : Sto → Prop} : withPen2 d ([a, b, c] :: R) k = k ([a, b, d] :: R) := rfl
theorem es_pen1 (h : Ev (f (some (.sh (.mu 0)) :: env) S) fun d S => withPen1 d S fun S => nx (some (.sh (.mu 0)) :: env) S) : EvS (sStore f (eV 0) (eC (.int 1)) (some (.sh (.mu 0)) :: env) S) nx rt bk ct := by
  show EvS (Res.bindS _ _ _) nx rt bk ct
  rw [evs_bindS]
  refine Ev.imp h fun d S q => ?_
  unfold withPen1 at q
  split at q
  · exact ⟨_, _, rfl, q⟩
  · exact q.elim
theorem es_pen2 (h : Ev (f (some (.sh (.mu 0)) :: env) S) fun d S => withPen2 d S fun S => nx (some (.sh (.mu 0)) :: env) S) : EvS (sStore f (eV 0) (eC (.int 2)) (some (.sh (.mu 0)) :: env) S) nx rt bk ct := by
  show EvS (Res.bindS _ _ _) nx rt bk ct
  rw [evs_bindS]
  refine Ev.imp h fun d S q => ?_
  unfold withPen2 at q
  split at q
  · exact ⟨_, _, rfl, q⟩
  · exact q.elim
end
/-! ### the pen -/
/-- the pen, and behind it what else changes -/
def PenR (R : Sto) (n : Int) (S : Sto) : Prop := ∃ (cells : List Int) (t rest : Int), S = [.lst (cells.map .int), .int t, .int rest] :: R ∧ 0 ≤ t ∧ t ≤ n ∧ 0 ≤ rest
abbrev PenOk (n : Int) (S : Sto) : Prop := PenR [] n S
theorem ne_nilI (cells : List Int) (S : Sto) (Q : D → Sto → Prop) : Ev (oNe (.lst (cells.map .int)) (.lst []) S) Q = Q (.bl (!decide (cells = []))) S := (eqE_lst eqE_int).oNe (by decide) cells [] S Q
theorem ne_nil0 (S : Sto) (Q : D → Sto → Prop) : Ev (oNe (.lst []) (.lst []) S) Q = Q (.bl false) S := (eqE_lst eqE_int).oNe (by decide) [] [] S Q
theorem atI_mod (cells : List Int) (hc : cells ≠ []) (t : Int) : ∃ c : Int, atI (cells.map D.int) (t % cells.length) = some (.int c) := by
  have hl : 0 < cells.length := List.length_pos_iff.mpr hc
  have h0 : 0 ≤ t % (cells.length : Int) := Int.emod_nonneg _ (by omega)
  have h1 : t % (cells.length : Int) < cells.length := Int.emod_lt_of_pos _ (by omega)
  obtain ⟨j, hj⟩ := Int.eq_ofNat_of_zero_le h0
  rw [hj] at h1 ⊢
  have hj' : j < cells.length := by omega
  exact ⟨cells[j], atI_nat (by rw [List.getElem?_map, List.getElem?_eq_getElem hj']; rfl)⟩
theorem mix_bound {m t : Int} (h0 : 0 ≤ m) (h1 : m < 2147483563) (ht : 0 ≤ t) (hn : t < 1048576) : (m * (2 * t + 2203) + 57793 * t * t + 84653).natAbs < 2 ^ 64 := by
  have e1 : 0 ≤ m * (2 * t + 2203) := Int.mul_nonneg h0 (by omega)
  have e2 : m * (2 * t + 2203) ≤ 2147483563 * 2099355 := Int.mul_le_mul (by omega) (by omega) (by omega) (by omega)
  have e3 : 0 ≤ 57793 * t * t := Int.mul_nonneg (by omega) ht
  have e4 : 57793 * t * t ≤ (57793 * 1048576) * 1048576 := Int.mul_le_mul (by omega) (by omega) (by omega) (by omega)
  generalize m * (2 * t + 2203) = x at *
  generalize 57793 * t * t = y at *
  omega
/-- the last part of a draw -/
theorem pow_b {m t : Int} {S : Sto} {Q : D → Sto → Prop} (h0 : 0 ≤ m) (h1 : m < 2147483563) (ht : 0 ≤ t) (hn : t < 1048576) : Ev (oPow (.int (m * (2 * t + 2203) + 57793 * t * t + 84653)) (.int 3) S) Q = Q (.int ((m * (2 * t + 2203) + 57793 * t * t + 84653) ^ 3)) S := ev_oPow ⟨by decide, by decide, mix_bound h0 h1 ht hn⟩
theorem pow_a {c t : Int} {S : Sto} {Q : D → Sto → Prop} (ht : 0 ≤ t) (hn : t < 1048576) : Ev (oPow (.int (c % 2147483549 + 84653 * t + 2203)) (.int 5) S) Q = Q (.int ((c % 2147483549 + 84653 * t + 2203) ^ 5)) S := ev_oPow ⟨by decide, by decide, by omega⟩
theorem draw_ev {n many : Int} {R S : Sto} (h : PenR R n S) (hn : n < 1048576) (h1 : 0 < many) (h2 : many < 1073741824) : Ev (φ__law_draw [.mu 0, .int many] S) fun d S' => ∃ x, d = .int x ∧ 0 ≤ x ∧ x < many ∧ PenR R (n + 1) S' := by
  obtain ⟨cells, t, rest, rfl, ht, htn, hr⟩ := h
  rw [e__law_draw]
  unfold b__law_draw
  by_cases hp : 0 < rest
  · simp only [↓es_seq, ↓es_if, ↓ev_eTst, ↓ev_eBin, ↓ev_eVbs, ↓ev_eVb0, ↓ev_eC, ↓muR_2, ↓ev_oGt, hp, decide_true, if_true, ↓es_set, ↓ev_eBlt, ↓ev_eCons, ↓ev_eNil, ↓ev_intI, ↓ws_0, ↓ws_s]
    refine es_pen2 ?_
    simp only [↓ev_eBin, ↓ev_eVbs, ↓ev_eVb0, ↓ev_oFdiv ⟨h1, h2⟩, ↓wp2, ↓es_ret, ↓ev_eBlt, ↓ev_eCons, ↓ev_eNil, ↓ev_intI, ↓ev_oMod h1]
    exact ⟨_, rfl, Int.emod_nonneg _ (by omega), Int.emod_lt_of_pos _ h1, cells, t, rest / many, rfl, ht, by omega, Int.ediv_nonneg hr (by omega)⟩
  · have htl : t < 1048576 := by omega
    have fin : ∀ x S', S' = [D.lst (cells.map .int), .int (t + 1), .int rest] :: R → 0 ≤ x % many ∧ x % many < many ∧ PenR R (n + 1) S' := fun x S' e => ⟨Int.emod_nonneg _ (by omega), Int.emod_lt_of_pos _ h1, cells, t + 1, rest, e, by omega, by omega, hr⟩
    simp only [↓es_seq, ↓es_if, ↓ev_eTst, ↓ev_eBin, ↓ev_eVbs, ↓ev_eVb0, ↓ev_eC, ↓muR_2, ↓muR_1, ↓ev_oGt, hp, decide_false, Bool.false_eq_true, if_false, ↓es_nil, ↓es_set, ↓ws_0, ↓ws_s]
    refine es_pen1 ?_
    have h64 : (-(2 ^ 64) < (57793 : Int) ∧ (57793 : Int) < 2 ^ 64) ∨ (-(2 ^ 64) < t ∧ t < 2 ^ 64) := .inl (by omega)
    simp only [↓ev_eBin, ↓ev_eVbs, ↓ev_eVb0, ↓ev_eC, ↓ev_oAdd, ↓wp1, ↓es_set, ↓ev_oMul h64, ↓ws_0, ↓ws_s, ↓es_if, ↓ev_eTst, ↓muR_0, ↓ev_eLst, ↓ev_eDsp, ↓ev_eNil, ↓ne_nilI]
    refine ⟨by decide, ?_⟩
    by_cases hc : cells = []
    · subst hc
      have h3 : ¬ t < 0 := by omega
      simp (disch := omega) [↓ne_nil0, ↓ne_nilI, ↓ev_oMul, ↓ev_oMod, ↓ev_oFdiv, ↓pow_a, ↓pow_b, h3]
      exact fin _ _ rfl
    · obtain ⟨c, hat⟩ := atI_mod cells hc t
      have hl : 0 < (cells.length : Int) := by have := List.length_pos_iff.mpr hc; omega
      by_cases hb : t < cells.length
      · by_cases hd : 1000000000000000000 ≤ (if c < 0 then -c else c)
        · simp (disch := omega) [↓ne_nilI, hc, hb, hd, ↓ev_ixL hat, ↓ev_oMul, ↓ev_oMod, ↓ev_oFdiv, -es_store2]
          refine es_pen2 ?_
          simp (disch := omega) [↓ev_oFdiv, ↓ev_oMod]
          refine ⟨Int.emod_nonneg _ (by omega), Int.emod_lt_of_pos _ h1, cells, t + 1, _, rfl, by omega, by omega, Int.ediv_nonneg ?_ (by omega)⟩
          split <;> omega
        · simp (disch := omega) [↓ne_nilI, hc, hb, hd, ↓ev_ixL hat, ↓ev_oMul, ↓ev_oMod, ↓ev_oFdiv, ↓pow_a, ↓pow_b]
          exact fin _ _ rfl
      · simp (disch := omega) [↓ne_nilI, hc, hb, ↓ev_ixL hat, ↓ev_oMul, ↓ev_oMod, ↓ev_oFdiv, ↓pow_a, ↓pow_b]
        exact fin _ _ rfl
end DL

namespace DL
open PySem PySem.Spec PyProof.Rows L2
section
variable {S R : Sto} {Q : D → Sto → Prop} {n : Int}
def dStair (s : List P2) : D := .tup (s.map dPair)
theorem eq_nilP (f : List P2) (Q : D → Sto → Prop) : Ev (oEq (.lst (f.map dPair)) (.lst []) S) Q = Q (.bl (decide (f = []))) S := (eqE_lst eqE_pair).oEq (by decide) f [] S Q
theorem ne_nilP (f : List P2) (Q : D → Sto → Prop) : Ev (oNe (.lst (f.map dPair)) (.lst []) S) Q = Q (.bl (!decide (f = []))) S := (eqE_lst eqE_pair).oNe (by decide) f [] S Q
theorem eq_snocP (f : List P2) (q : P2) (Q : D → Sto → Prop) : Ev (oEq (.lst (f.map dPair ++ [dPair q])) (.lst []) S) Q = Q (.bl false) S := by
  have := eq_nilP (S := S) (f ++ [q]) Q
  rw [List.map_append] at this
  rw [show (f.map dPair ++ [dPair q]) = f.map dPair ++ [q].map dPair from rfl, this]
  simp
theorem corner_sort {ps : List P2} {Q : List D → Sto → Prop} : Ev (oSorted [.lst (ps.map fun p => dPair (max p.1 p.2, p.2))] S) Q = Q ((cornersOf ps).map dPair) S := by
  rw [show (ps.map fun p => dPair (max p.1 p.2, p.2)) = (ps.map fun p => (max p.1 p.2, p.2)).map dPair by rw [List.map_map]; rfl, ev_sortP]
  rfl
theorem fold_snoc (pre : List P2) (x : P2) : (pre ++ [x]).foldl cutStep [] = cutStep (pre.foldl cutStep []) x := by rw [List.foldl_append]; rfl
theorem opt_non : dOpt none = .non := rfl
theorem opt_int (i : Int) : dOpt (some i) = .int i := rfl
theorem zip_falls : ∀ {s : List P2}, s.Pairwise Falls → ∀ q ∈ s.zip (s.drop 1), Falls q.1 q.2
  | [], _, q, hq => absurd hq (by simp)
  | [p], _, q, hq => absurd hq (by simp)
  | p :: r :: u, h, q, hq => by
    rw [List.pairwise_cons] at h
    have hq' : q ∈ (p, r) :: (r :: u).zip ((r :: u).drop 1) := by simpa using hq
    rcases List.mem_cons.mp hq' with e | e
    · rw [e]; exact h.1 r (by simp)
    · exact zip_falls h.2 q e
theorem eqE_stair : EqE dStair 2 := eqE_tup eqE_pair
theorem eq_emptyT (s : List P2) (Q : D → Sto → Prop) : Ev (oEq (dStair s) (.tup []) S) Q = Q (.bl (decide (s = []))) S := eqE_stair.oEq (by decide) s [] S Q
theorem ne_emptyT (s : List P2) (Q : D → Sto → Prop) : Ev (oNe (dStair s) (.tup []) S) Q = Q (.bl (!decide (s = []))) S := eqE_stair.oNe (by decide) s [] S Q
theorem PenR.mono {n m : Int} {S : Sto} (h : PenR R n S) (hm : n ≤ m) : PenR R m S := by
  obtain ⟨c, t, r, e, h1, h2, h3⟩ := h
  exact ⟨c, t, r, e, h1, by omega, h3⟩
theorem draw_k {n many : Int} {S : Sto} {Q : D → Sto → Prop} (h : PenR R n S) (hn : n < 1048576) (h1 : 0 < many) (h2 : many < 1073741824) (q : ∀ x S', 0 ≤ x → x < many → PenR R (n + 1) S' → Q (.int x) S') : Ev (φ__law_draw [.mu 0, .int many] S) Q :=
  Ev.imp (draw_ev h hn h1 h2) fun d S' ⟨x, e, a, b, p⟩ => by rw [e]; exact q x S' a b p
theorem pick_k {ds : List D} (h : PenR R n S) (hn : n < 1048576) (h0 : ds ≠ []) (hl : ds.length < 1000) (q : ∀ d S', d ∈ ds → PenR R (n + 1) S' → Q d S') : Ev (φ__law_pick [.mu 0, .lst ds] S) Q := by
  rw [e__law_pick]
  unfold b__law_pick
  have hp := List.length_pos_iff.mpr h0
  simp only [↓es_ret, ↓ev_eBin, ↓ev_eVbs, ↓ev_eVb0, ↓ev_eCall0, ↓ev_eCons, ↓ev_eV0, ↓ev_eBlt, ↓ev_eNil, ↓ev_lenL]
  refine draw_k h hn (by omega) (by omega) fun x S' x0 x1 p => ?_
  obtain ⟨j, rfl⟩ := Int.eq_ofNat_of_zero_le x0
  have hj : j < ds.length := by omega
  rw [ev_ixL (atI_nat (List.getElem?_eq_getElem hj))]
  exact q _ _ (List.getElem_mem hj) p
theorem forall_dec {γ : Type} {f : γ → D} {P : γ → Prop} : ∀ {ys : List D}, (∀ y ∈ ys, ∃ x, y = f x ∧ P x) → ∃ xs : List γ, ys = xs.map f ∧ ∀ x ∈ xs, P x
  | [], _ => ⟨[], rfl, fun x hx => absurd hx (by simp)⟩
  | y :: ys, h => by
    obtain ⟨x, e, p⟩ := h y (by simp)
    obtain ⟨xs, e2, p2⟩ := forall_dec (ys := ys) fun z hz => h z (by simp [hz])
    refine ⟨x :: xs, by rw [e, e2]; rfl, fun z hz => ?_⟩
    rcases List.mem_cons.mp hz with r | r
    · rw [r]; exact p
    · exact p2 z r
theorem pairs_k {m : Int} (m1 : 1 ≤ m) (m2 : m ≤ 1000) (h : PenR R n S) (hn : n < 1000000) (q : ∀ (ps : List P2) (S' : Sto), ps.length ≤ 5 → (∀ p ∈ ps, 1 ≤ p.1 ∧ p.1 ≤ m ∧ 0 ≤ p.2 ∧ p.2 ≤ m) → PenR R (n + 11) S' → Q (.lst (ps.map dPair)) S') : Ev (φ__law_pairs [.mu 0, .int m] S) Q := by
  rw [e__law_pairs]
  unfold b__law_pairs
  simp only [↓es_ret, ↓ev_eLst, ↓ev_eComp, ↓ev_iRg1, ↓ev_eCall0, ↓ev_eCons, ↓ev_eV0, ↓ev_eDsp, ↓ev_eC, ↓ev_eNil]
  refine ⟨by decide, ?_⟩
  refine pick_k h (by omega) (by simp) (by simp) fun d S1 hd p1 => ?_
  have hk : ∃ k : Nat, d = .int (k : Int) ∧ k ≤ 5 := by
    simp only [List.mem_cons, List.not_mem_nil, or_false] at hd
    rcases hd with rfl | rfl | rfl | rfl | rfl | rfl | rfl
    · exact ⟨0, rfl, by omega⟩
    · exact ⟨1, rfl, by omega⟩
    · exact ⟨1, rfl, by omega⟩
    · exact ⟨2, rfl, by omega⟩
    · exact ⟨3, rfl, by omega⟩
    · exact ⟨4, rfl, by omega⟩
    · exact ⟨5, rfl, by omega⟩
  obtain ⟨k, rfl, hk⟩ := hk
  refine ⟨by omega, ?_⟩
  simp only [↓ww_s, ↓ww_0, ↓ws_s, ↓ws_0]
  unfold rangeD
  refine Ev.imp (compGo_st (fun i : Nat => D.int (0 + (i : Int))) (fun j S => PenR R (n + 1 + 2 * (j : Int)) S) (fun _ y => ∃ p : P2, y = dPair p ∧ 1 ≤ p.1 ∧ p.1 ≤ m ∧ 0 ≤ p.2 ∧ p.2 ≤ m) (List.range (k : Int).toNat) 0 S1 (fun x hx j S2 hj p2 => ?_) (p1.mono (by omega))) fun ys S2 ⟨p2, hl, hy⟩ => ?_
  · rw [List.length_range] at hj
    simp only [↓wg_n, ↓ws_0, ↓ws_s, ↓ev_eTup, ↓ev_eCons, ↓ev_eBin, ↓ev_eC, ↓ev_eCall0, ↓ev_eV0, ↓ev_eVs, ↓ev_eNil]
    refine draw_k p2 (by omega) (by omega) (by omega) fun a S3 a0 a1 p3 => ?_
    simp only [↓ev_oAdd, ↓ev_eVbs, ↓ev_eVb0]
    refine draw_k p3 (by omega) (by omega) (by omega) fun c S4 c0 c1 p4 => ?_
    exact ⟨by show 2 ≤ 1000; decide, p4.mono (by omega), (1 + a, c), rfl, by omega, by omega, by omega, by omega⟩
  · rw [List.length_range] at p2 hl
    obtain ⟨ps, e, hps⟩ := forall_dec (f := dPair) (P := fun p : P2 => 1 ≤ p.1 ∧ p.1 ≤ m ∧ 0 ≤ p.2 ∧ p.2 ≤ m) fun y hyy => by
      obtain ⟨_, _, p, e, h⟩ := hy y hyy
      exact ⟨p, e, h⟩
    subst e
    rw [List.length_map] at hl
    exact q ps S2 (by omega) hps (p2.mono (by omega))
theorem ne_ints (ns : List Int) (Q : D → Sto → Prop) : Ev (oNe (.lst (ns.map .int)) (.lst []) S) Q = Q (.bl (!decide (ns = []))) S := (eqE_lst eqE_int).oNe (by decide) ns [] S Q
theorem foldl_min_mem : ∀ (ns : List Int) (n : Int), ns.foldl min n = n ∨ ns.foldl min n ∈ ns
  | [], n => .inl rfl
  | x :: ns, n => by
    rw [List.foldl_cons]
    rcases foldl_min_mem ns (min n x) with h | h
    · rw [h]
      rcases Int.le_total n x with z | z
      · exact .inl (by omega)
      · exact .inr (by rw [show min n x = x by omega]; simp)
    · exact .inr (by simp [h])
theorem rangeD_map (lo : Int) (n : Nat) : rangeD lo n = (List.range n).map fun (i : Nat) => D.int (lo + (i : Int)) := rfl
theorem byLimits_k {ps : List P2} {most : Int} (h0 : 0 ≤ most) (h1 : most ≤ 1000) (hp : ∀ p ∈ ps, 0 ≤ p.2) (q : ∀ row : List (Option Int), row.length = most.toNat → (∀ x, some x ∈ row → 0 ≤ x) → Q (.lst (row.map dOpt)) S) : Ev (φ__law_by_limits [.lst (ps.map dPair), .int most] S) Q := by
  rw [e__law_by_limits]
  unfold b__law_by_limits
  simp only [↓es_seq, ↓es_new, ↓ev_eDsp, ↓ev_eNil]
  refine ⟨by decide, ?_⟩
  simp only [↓ws_s, ↓ws_0, ↓es_for, ↓ev_iRg2, ↓ev_eC, ↓ev_eBin, ↓ev_eVbs, ↓ev_eVb0, ↓ev_oAdd]
  refine ⟨by omega, ?_⟩
  refine forGo_inv (fun j env S' => S' = S ∧ ∃ (row : List (Option Int)) (x3 x4 : Option Slot), env = [some (.sh (.lst (ps.map dPair))), some (.sh (.int most)), some (.own (row.map dOpt)), x3, x4, none, none] ∧ row.length = j ∧ ∀ x, some x ∈ row → 0 ≤ x) (rangeD 1 (most + 1 - 1).toNat) 0 ?_ _ _ ⟨rfl, [], none, none, rfl, rfl, fun x hx => absurd hx (by simp)⟩ ?_
  · rintro j d env S' hd ⟨rfl, row, x3, x4, rfl, hl, hr⟩
    have hj : j < (most + 1 - 1).toNat := by
      have := (List.getElem?_eq_some_iff.mp hd).1
      rwa [rangeD_len] at this
    rw [rangeD_get hj] at hd
    cases hd
    simp only [↓wg_n, ↓ws_0, ↓ws_s, ↓es_seq, ↓es_set, ↓ev_eLst, ↓ev_eComp, ↓ev_iD, ↓ev_eV0, ↓wq_l, ↓ww_0, ↓ww_s]
    rw [compGo_pure dPair (fun p => decide (p.1 ≤ 1 + (j : Int)) && decide (p.2 ≤ 1 + (j : Int))) (fun p => .int p.2) ps fun p hp => by
      by_cases a : p.1 ≤ 1 + (j : Int)
      · simp [a]
      · simp [a]]
    rw [show ((ps.filter fun p => decide (p.1 ≤ 1 + (j : Int)) && decide (p.2 ≤ 1 + (j : Int))).map fun p => D.int p.2) = ((ps.filter fun p => decide (p.1 ≤ 1 + (j : Int)) && decide (p.2 ≤ 1 + (j : Int))).map Prod.snd).map D.int by rw [List.map_map]; rfl]
    have hmem : ∀ x ∈ (ps.filter fun p => decide (p.1 ≤ 1 + (j : Int)) && decide (p.2 ≤ 1 + (j : Int))).map Prod.snd, 0 ≤ x := fun x hx => by
      obtain ⟨p, hpp, e⟩ := List.mem_map.mp hx
      rw [← e]
      exact hp p (List.mem_filter.mp hpp).1
    generalize (ps.filter fun p => decide (p.1 ≤ 1 + (j : Int)) && decide (p.2 ≤ 1 + (j : Int))).map Prod.snd = ns at *
    have hlr : row.length < 1000000 := by omega
    cases ns with
    | nil =>
      simp [↓ne_ints, hlr]
      exact ⟨row ++ [none], by simp [opt_non], by simp; omega, fun x hx => hr x (by simpa using hx)⟩
    | cons m ms =>
      simp only [↓ws_0, ↓ws_s, ↓es_app, ↓ev_eIf, ↓ev_eTst, ↓ev_eBin, ↓ev_eVbs, ↓ev_eVb0, ↓ev_eLst, ↓ev_eDsp, ↓ev_eNil]
      refine ⟨by decide, ?_⟩
      simp [↓ne_ints, ↓ev_minL, hlr]
      refine ⟨row ++ [some (ms.foldl min m)], by simp [opt_int], by simp; omega, fun x hx => ?_⟩
      rcases List.mem_append.mp hx with z | z
      · exact hr x z
      · have e : x = ms.foldl min m := by simpa using z
        rw [e]
        rcases foldl_min_mem ms m with y | y
        · rw [y]; exact hmem m (by simp)
        · exact hmem _ (by simp [y])
  · rintro env S' ⟨rfl, row, x3, x4, rfl, hl, hr⟩
    rw [Nat.zero_add, rangeD_len] at hl
    simp
    exact q row (by omega) hr
/-- what is known of a stair in the making, behind the limits below j -/
def Mk (j : Nat) (s : List P2) : Prop := s.length ≤ j ∧ (∀ p ∈ s, 1 ≤ p.1 ∧ p.1 < j ∧ 0 ≤ p.2 ∧ p.2 ≤ p.1) ∧ s.Pairwise Falls
theorem Mk.mono {j : Nat} {s : List P2} (h : Mk j s) : Mk (j + 1) s := ⟨by have := h.1; omega, fun p hp => by have := h.2.1 p hp; omega, h.2.2⟩
theorem Mk.snoc {j : Nat} {s : List P2} {v : Int} (h : Mk j s) (h1 : 1 ≤ j) (h2 : 0 ≤ v) (h3 : v ≤ j) (h4 : ∀ q, s.getLast? = some q → v < q.2) : Mk (j + 1) (s ++ [((j : Int), v)]) := by
  refine ⟨by have := h.1; simp; omega, fun p hp => ?_, ?_⟩
  · rcases List.mem_append.mp hp with z | z
    · have := h.2.1 p z; omega
    · have e : p = ((j : Int), v) := by simpa using z
      rw [e]
      show 1 ≤ (j : Int) ∧ (j : Int) < (j + 1 : Nat) ∧ 0 ≤ v ∧ v ≤ (j : Int)
      omega
  · rw [List.pairwise_append]
    refine ⟨h.2.2, List.pairwise_singleton _ _, fun p hp r hr => ?_⟩
    have e : r = ((j : Int), v) := by simpa using hr
    rw [e]
    refine ⟨(h.2.1 p hp).2.1, ?_⟩
    show v < p.2
    rcases snoc_of s with z | ⟨f, q, z⟩
    · rw [z] at hp; exact absurd hp (by simp)
    · have hq := h4 q (by rw [z, List.getLast?_concat])
      rw [z] at hp
      rcases List.mem_append.mp hp with y | y
      · have := h.2.2
        rw [z, List.pairwise_append] at this
        have := (this.2.2 p y q (by simp)).2
        omega
      · have e2 : p = q := by simpa using y
        rw [e2]; exact hq
theorem ofLimits_k {row : List (Option Int)} (hl : row.length ≤ 1000) (hr : ∀ x, some x ∈ row → 0 ≤ x) (q : ∀ s : List P2, Stair row.length s → s.length ≤ row.length + 1 → Q (dStair s) S) : Ev (φ__law_of_limits [.lst (row.map dOpt)] S) Q := by
  rw [e__law_of_limits]
  unfold b__law_of_limits
  simp only [↓es_seq, ↓es_new, ↓ev_eDsp, ↓ev_eNil]
  refine ⟨by decide, ?_⟩
  simp only [↓ws_s, ↓ws_0, ↓es_for, ↓ev_iD, ↓ev_eLst, ↓ev_eListEn, ↓ev_eCatN, ↓ev_eDsp, ↓ev_eCons, ↓ev_eC, ↓ev_eNil, ↓ev_eBltN, ↓ev_eVb0, ↓ev_listL, ↓wq_l]
  refine ⟨by show 1 ≤ 1000; decide, by simp; omega, ?_⟩
  refine forGo_inv (fun j env S' => S' = S ∧ ∃ (s : List P2) (x2 x3 : Option Slot), env = [some (.sh (.lst (row.map dOpt))), some (.own (s.map dPair)), x2, x3] ∧ Mk j s) (enD ([.non] ++ row.map dOpt)) 0 ?_ _ _ ⟨rfl, [], none, none, rfl, Nat.le_refl _, fun p hp => absurd hp (by simp), List.Pairwise.nil⟩ ?_
  · rintro j d env S' hd ⟨rfl, s, x2, x3, rfl, hs⟩
    rw [Nat.zero_add] at hs ⊢
    have hj : ∃ x : Option Int, d = .tup [.int (j : Nat), dOpt x] ∧ (x.isSome → 1 ≤ j) ∧ ∀ v, x = some v → 0 ≤ v := by
      unfold enD at hd
      rw [List.getElem?_mapIdx] at hd
      obtain ⟨y, hy, e⟩ := Option.map_eq_some_iff.mp hd
      cases j with
      | zero =>
        have e2 : y = .non := by simpa using hy.symm
        exact ⟨none, by rw [← e, e2]; rfl, fun z => (by cases z), fun v z => (by cases z)⟩
      | succ j =>
        have e2 : (row.map dOpt)[j]? = some y := by simpa using hy
        rw [List.getElem?_map] at e2
        obtain ⟨x, hx, e3⟩ := Option.map_eq_some_iff.mp e2
        exact ⟨x, by rw [← e, ← e3], fun _ => Nat.succ_pos _, fun v hv => hr v (by rw [← hv]; exact List.mem_of_getElem? hx)⟩
    obtain ⟨x, rfl, hx1, hx2⟩ := hj
    have hlen : s.length < 1000000 := by
      have h1 := (List.getElem?_eq_some_iff.mp hd).1
      rw [enD_len] at h1
      have h2 := hs.1
      simp at h1
      omega
    cases x with
    | none =>
      simp [opt_non]
      exact ⟨s, rfl, hs.mono⟩
    | some v =>
      have v0 := hx2 v rfl
      have j1 := hx1 rfl
      simp only [opt_int, ↓wg_2, ↓wg_n, ↓ws_0, ↓ws_s, ↓es_if, ↓ev_eAndT, ↓ev_eTst, ↓ev_eBin, ↓ev_eVbs, ↓ev_eVb0, ↓ev_eC, ↓ev_oIsNot, ev_isNonI, Bool.not_false, if_true, ↓ev_oLe]
      by_cases hv : v ≤ (j : Int)
      · simp only [decide_eq_true hv, if_true]
        rcases snoc_of s with h | ⟨f, q', h⟩
        · subst h
          simp [↓eq_nilP]
          exact ⟨[((j : Int), v)], by simp, hs.snoc j1 v0 hv (fun q hq => by simp at hq)⟩
        · subst h
          simp only [List.map_append, List.map_cons, List.map_nil]
          have hlen' : f.length + 1 < 1000000 := by simpa using hlen
          by_cases hlt : v < q'.2
          · simp [↓eq_snocP, hlt, hlen']
            exact ⟨f ++ [q'] ++ [((j : Int), v)], by simp, hs.snoc j1 v0 hv (fun q hq => by rw [List.getLast?_concat] at hq; cases hq; exact hlt)⟩
          · simp [↓eq_snocP, hlt]
            exact ⟨f ++ [q'], by simp, hs.mono⟩
      · simp [hv]
        exact ⟨s, rfl, hs.mono⟩
  · rintro env S' ⟨rfl, s, x2, x3, rfl, hs⟩
    rw [Nat.zero_add, enD_len] at hs
    simp
    have hz : ([D.non] ++ row.map dOpt).length = row.length + 1 := by simp
    rw [hz] at hs
    exact q s ⟨fun p hp => by have := hs.2.1 p hp; omega, hs.2.2⟩ (by have := hs.1; omega)
end
end DL

namespace DL
open PySem PySem.Spec PyProof.Rows L2
section
variable {S R : Sto} {Q : D → Sto → Prop} {n : Int}
theorem ne_snocP (f : List P2) (q : P2) (Q : D → Sto → Prop) : Ev (oNe (.lst (f.map dPair ++ [dPair q])) (.lst []) S) Q = Q (.bl true) S := by
  have := ne_nilP (S := S) (f ++ [q]) Q
  rw [List.map_append] at this
  rw [show (f.map dPair ++ [dPair q]) = f.map dPair ++ [q].map dPair from rfl, this]
  simp
theorem foldl_max_le : ∀ (ns : List Int) (n L : Int), ns.foldl max n ≤ L ↔ n ≤ L ∧ ∀ x ∈ ns, x ≤ L
  | [], n, L => by simp
  | x :: ns, n, L => by
    rw [List.foldl_cons, foldl_max_le ns (max n x) L]
    constructor
    · rintro ⟨h, h2⟩
      refine ⟨by omega, fun y hy => ?_⟩
      rcases List.mem_cons.mp hy with e | e
      · rw [e]; omega
      · exact h2 y e
    · rintro ⟨h, h2⟩
      have := h2 x (by simp)
      exact ⟨by omega, fun y hy => h2 y (by simp [hy])⟩
/-- the greatest number of a list of pairs -/
def topOf (s : List P2) : Int := match s.map (fun p => max p.1 p.2) with
  | [] => 0
  | m :: ms => ms.foldl max m
theorem topOf_le {s : List P2} (hs : s ≠ []) {L : Int} : topOf s ≤ L ↔ ∀ p ∈ s, max p.1 p.2 ≤ L := by
  cases s with
  | nil => exact absurd rfl hs
  | cons p r =>
    show (r.map fun p => max p.1 p.2).foldl max (max p.1 p.2) ≤ L ↔ _
    rw [foldl_max_le]
    constructor
    · rintro ⟨h1, h2⟩ q hq
      rcases List.mem_cons.mp hq with e | e
      · rw [e]; exact h1
      · exact h2 _ (List.mem_map.mpr ⟨q, e, rfl⟩)
    · intro h
      refine ⟨h p (by simp), fun x hx => ?_⟩
      obtain ⟨q, hq, rfl⟩ := List.mem_map.mp hx
      exact h q (by simp [hq])
theorem most_k {xs : List (List P2)} {f : List P2 → D} (hf : f = (fun s => D.lst (s.map dPair)) ∨ f = dStair) (hl : xs.length ≤ 1000) (q : ∀ M : Int, 3 ≤ M → (∀ s ∈ xs, ∀ p ∈ s, max p.1 p.2 ≤ M - 3) → (∀ B, 0 ≤ B → (∀ s ∈ xs, ∀ p ∈ s, max p.1 p.2 ≤ B) → M ≤ B + 3) → Q (.int M) S) : Ev (φ__law_most [.lst (xs.map f)] S) Q := by
  have len_f : ∀ (s : List P2) (Q : D → Sto → Prop), Ev (bLen [f s] S) Q = Q (.int s.length) S := fun s Q => by
    rcases hf with e | e
    · subst e; simp
    · subst e; simp [dStair]
  have seq_f : ∀ (s : List P2) (k : List D → Prop), withSeq (f s) k = k (s.map dPair) := fun s k => by
    rcases hf with e | e
    · subst e; rfl
    · subst e; rfl
  rw [e__law_most]
  unfold b__law_most
  simp only [↓es_ret, ↓ev_eBin, ↓ev_eC, ↓ev_eBlt, ↓ev_eCons, ↓ev_eLst, ↓ev_eCatN, ↓ev_eDsp, ↓ev_eNil]
  refine ⟨by show 1 ≤ 1000; decide, ?_⟩
  simp only [↓ev_eComp, ↓ev_iD, ↓ev_eV0, ↓wq_l, ↓ww_0, ↓ww_s, ↓ws_0, ↓ws_s]
  rw [compGo_pure f (fun s => decide (0 < (s.length : Int))) (fun s => .int (topOf s)) xs fun s hs => by
    simp only [↓wg_n, ↓ws_0, ↓ws_s, ↓ev_eTst, ↓ev_eBin, ↓ev_eBlt, ↓ev_eCons, ↓ev_eVbs, ↓ev_eVb0, ↓ev_eNil, ↓len_f, ↓ev_eC, ↓ev_oGt]
    refine ⟨trivial, trivial, fun hk => ?_⟩
    simp only [↓ev_eLst, ↓ev_eComp, ↓ev_iD, ↓ev_eVs, ↓ev_eV0, ↓seq_f, ↓ww_0, ↓ww_s, ↓ws_0, ↓ws_s]
    rw [compGo_all dPair (fun p => .int (max p.1 p.2)) s fun p hp => by simp]
    rw [show (s.map fun p => D.int (max p.1 p.2)) = (s.map fun p => max p.1 p.2).map D.int by rw [List.map_map]; rfl]
    unfold topOf
    cases s with
    | nil => simp at hk
    | cons p r =>
      simp only [List.map_cons]
      rw [show D.int (max p.1 p.2) :: (r.map fun p => max p.1 p.2).map D.int = (max p.1 p.2 :: r.map fun p => max p.1 p.2).map D.int from rfl, ev_maxL]
      first | exact ⟨rfl, rfl⟩ | exact ⟨rfl, trivial⟩]
  have hlen : ((xs.filter fun s => decide (0 < (s.length : Int))).map fun s => D.int (topOf s)).length ≤ xs.length := by
    rw [List.length_map]; exact List.length_filter_le _ _
  refine ⟨by simp only [List.length_cons, List.length_nil]; omega, ?_⟩
  rw [show [D.int 0] ++ ((xs.filter fun s => decide (0 < (s.length : Int))).map fun s => D.int (topOf s)) = (0 :: (xs.filter fun s => decide (0 < (s.length : Int))).map topOf).map D.int by
    rw [List.map_cons, List.map_map]; rfl]
  simp only [↓ev_maxL, ↓ev_oAdd]
  have mem : ∀ x, x ∈ (xs.filter fun s => decide (0 < (s.length : Int))).map topOf ↔ ∃ s ∈ xs, s ≠ [] ∧ topOf s = x := fun x => by
    rw [List.mem_map]
    constructor
    · rintro ⟨s, hs, e⟩
      rw [List.mem_filter, decide_eq_true_eq] at hs
      exact ⟨s, hs.1, fun z => by rw [z] at hs; simp at hs, e⟩
    · rintro ⟨s, hs, hne, e⟩
      have := List.length_pos_iff.mpr hne
      exact ⟨s, by rw [List.mem_filter, decide_eq_true_eq]; exact ⟨hs, by omega⟩, e⟩
  refine q _ ?_ (fun s hs p hp => ?_) (fun B hB h => ?_)
  · have := (foldl_max_le ((xs.filter fun s => decide (0 < (s.length : Int))).map topOf) 0 _).mp (Int.le_refl _)
    omega
  · have h1 := ((foldl_max_le ((xs.filter fun s => decide (0 < (s.length : Int))).map topOf) 0 _).mp (Int.le_refl _)).2 (topOf s) ((mem _).mpr ⟨s, hs, fun z => by rw [z] at hp; exact absurd hp (by simp), rfl⟩)
    have h2 := (topOf_le (s := s) (fun z => by rw [z] at hp; exact absurd hp (by simp))).mp h1 p hp
    omega
  · have := (foldl_max_le ((xs.filter fun s => decide (0 < (s.length : Int))).map topOf) 0 B).mpr ⟨hB, fun x hx => by
      obtain ⟨s, hs, hne, e⟩ := (mem x).mp hx
      rw [← e, topOf_le hne]
      exact h s hs⟩
    omega
theorem stair_k {m : Int} (m1 : 1 ≤ m) (m2 : m ≤ 50) (h : PenR R n S) (hn : n < 1000000) (q : ∀ (s : List P2) (S' : Sto), Stair (m + 3) s → s.length ≤ 100 → PenR R (n + 11) S' → Q (dStair s) S') : Ev (φ__law_stair [.mu 0, .int m] S) Q := by
  rw [e__law_stair]
  unfold b__law_stair
  simp only [↓es_seq, ↓es_set, ↓ev_eCall0, ↓ev_eCons, ↓ev_eV0, ↓ev_eVs, ↓ev_eNil]
  refine pairs_k m1 (by omega) h hn fun ps S1 hl hp p1 => ?_
  simp only [↓ws_0, ↓ws_s, ↓es_ret, ↓ev_eCall0, ↓ev_eCons, ↓ev_eVs, ↓ev_eV0, ↓ev_eNil, ↓ev_eLst, ↓ev_eDsp]
  refine ⟨by show 1 ≤ 1000; decide, ?_⟩
  rw [show [D.lst (ps.map dPair)] = [ps].map (fun s => D.lst (s.map dPair)) from rfl]
  refine most_k (.inl rfl) (by simp) fun M h3 hM hB => ?_
  have hM9 := hB m (by omega) (fun s hs p hp' => by
    rw [List.mem_singleton.mp hs] at hp'
    have := hp p hp'
    omega)
  refine byLimits_k (by omega) (by omega) (fun p hp' => (hp p hp').2.2.1) fun row hl2 hr => ?_
  refine ofLimits_k (by omega) hr fun s hs hl3 => ?_
  exact q s S1 (hs.mono (by omega)) (by omega) p1
theorem cut_len (ps : List P2) : (cutP ps).length ≤ ps.length := by
  have := (cut_ok ps).len
  rwa [corners_len] at this
theorem pen_ev {ns : List Int} (hl : ns.length ≤ 63) : Ev (φ__law_pen [.lst (ns.map .int)] []) Q = Q (.mu 0) [[.lst (ns.map .int), .int 0, .int 0]] := Ev.of (Ev.eq (by
  rw [e__law_pen]
  unfold b__law_pen
  simp only [↓es_ret, ↓ev_eMu, ↓ev_eDsp, ↓ev_eCons, ↓ev_eLst, ↓ev_eComp, ↓ev_iD, oSo_int, oNo_eq, ↓ev_eSl, ↓ev_eVb0, ↓ww_0, ↓ww_s, ↓ws_0, ↓ws_s, ↓wq_l]
  have cut : cutD (ns.map D.int) none (some 63) = ns.map D.int := by
    unfold cutD
    rw [show HT.sIx (ns.map D.int).length 0 none = 0 from HT.sIx_none _ 0, show HT.sIx (ns.map D.int).length (ns.map D.int).length (some 63) = min 63 (ns.map D.int).length from HT.sIx_nat _ _ 63, List.drop_zero, Nat.sub_zero]
    exact List.take_of_length_le (by rw [List.length_map]; omega)
  rw [cut, compGo_all D.int D.int ns fun x hx => by simp]
  simp))
end
end DL

namespace DL
open PySem PySem.Spec PyProof.Rows L2
/-! ### any datum -/
mutual
def pd : D → Bool
  | .mu _ => false
  | .ty _ => false
  | .exn _ _ _ => false
  | .obj _ _ _ => false
  | .lst ds => pdAll ds
  | .tup ds => pdAll ds
  | .non => true
  | .bl _ => true
  | .int _ => true
  | .str _ => true
  | .dct _ _ => true
def pdAll : List D → Bool
  | [] => true
  | d :: ds => pd d && pdAll ds
end
theorem pdAll_mem : ∀ {ds : List D}, pdAll ds = true → ∀ d ∈ ds, pd d = true
  | [], _, d, h => absurd h (by simp)
  | c :: cs, e, d, h => by
    have e' : (pd c && pdAll cs) = true := e
    rw [Bool.and_eq_true] at e'
    rcases List.mem_cons.mp h with r | r
    · rw [r]; exact e'.1
    · exact pdAll_mem e'.2 d r
theorem pd_seq {d : D} {ds : List D} (h : pd d = true) (e : seqD d = some ds) : pdAll ds = true := by
  cases d <;> first | (cases e; exact h) | (cases e)
def intD : D → Option Int
  | .int i => some i
  | _ => none
def betw (a b : Int) (d : D) : Bool := match intD d with
  | some i => decide (a ≤ i) && decide (i ≤ b)
  | none => false
def MM : Int := 1000000
section
variable {S R : Sto} {Q : D → Sto → Prop} {n : Int}
theorem compGo_allD {g : GE} {f : EE} {env0 : Env} {S : Sto} {Q : List D → Sto → Prop} (out : D → D) (xs : List D) (h : ∀ x ∈ xs, withG g x env0 fun env => Ev (f env S) fun d S2 => d = out x ∧ S2 = S) :
    Ev (compGo g eYes f env0 xs S) Q = Q (xs.map out) S := by
  have := compGo_all (Q := Q) (fun x => x) out xs h
  rwa [List.map_id'] at this
theorem compGo_pureD {g : GE} {p : ET} {f : EE} {env0 : Env} {S : Sto} {Q : List D → Sto → Prop} (keep : D → Bool) (out : D → D) (xs : List D) (h : ∀ x ∈ xs, withG g x env0 fun env => Ev (p env S) fun b S1 => b = keep x ∧ S1 = S ∧ (keep x = true → Ev (f env S) fun d S2 => d = out x ∧ S2 = S)) :
    Ev (compGo g p f env0 xs S) Q = Q ((xs.filter keep).map out) S := by
  have := compGo_pure (Q := Q) (fun x => x) keep out xs h
  rwa [List.map_id'] at this
theorem ev_allB {γ : Type} (g : γ → Bool) (xs : List γ) : Ev (bAll [.lst (xs.map fun x => D.bl (g x))] S) Q = Q (.bl (xs.all g)) S := by
  rw [show (xs.map fun x => D.bl (g x)) = (xs.map g).map D.bl by rw [List.map_map]; rfl, ev_all, List.all_map]
  rfl
theorem int_any {d : D} (h : pd d = true) : Ev (φ_is_integer [d] S) Q = Q (.bl (intD d).isSome) S := by
  rw [e_is_integer]
  unfold b_is_integer
  cases d <;> first | (cases h; done) | (simp [withTy, isTy, intD])
theorem betw_any {d : D} {a b : Int} (h : pd d = true) : Ev (φ_is_between [d, .int a, .int b] S) Q = Q (.bl (betw a b d)) S := by
  rw [e_is_between]
  unfold b_is_between
  simp only [↓es_ret, ↓ev_eAnd, ↓ev_eCall0, ↓ev_eCons, ↓ev_eV0, ↓ev_eNil, ↓int_any h]
  cases d <;> first
    | (cases h; done)
    | (rename_i i
       simp [intD, betw]
       by_cases h1 : a ≤ i
       · simp [h1]
       · simp [h1])
    | (simp [intD, betw])
theorem listed_any {d : D} (h : pd d = true) : Ev (φ_is_listed [d] S) Q = Q (.bl (seqD d).isSome) S := by
  rw [e_is_listed]
  unfold b_is_listed
  cases d <;> first | (cases h; done) | (simp [withTy, isTy, seqD])
/-- a pair of ints, the second one between a and b -/
def pairL (a b : Int) : List D → Bool
  | [x, y] => betw 1 MM x && betw a b y
  | _ => false
def pairOk (a b : Int) (d : D) : Bool := match seqD d with
  | some ds => pairL a b ds
  | none => false
theorem neI2 (i j : Int) (Q : D → Sto → Prop) : Ev (oNe (.int i) (.int j) S) Q = Q (.bl (!decide (i = j))) S := eqE_int.oNe (by decide) i j S Q
theorem eqI2 (i j : Int) (Q : D → Sto → Prop) : Ev (oEq (.int i) (.int j) S) Q = Q (.bl (decide (i = j))) S := eqE_int.oEq (by decide) i j S Q
theorem pair_any {d : D} {a b : Int} (h : pd d = true) : Ev (φ_is_pair_of [d, .int a, .int b] S) Q = Q (.bl (pairOk a b d)) S := by
  rw [e_is_pair_of]
  unfold b_is_pair_of
  simp only [↓es_seq, ↓es_if, ↓ev_eOrT, ↓ev_eNotT, ↓ev_eTru, ↓ev_eCall0, ↓ev_eCons, ↓ev_eV0, ↓ev_eNil, ↓listed_any h, ↓wt_b]
  have key : ∀ {mk : List D → D} (hm : mk = D.lst ∨ mk = D.tup) (ds : List D) (hd : pdAll ds = true), EvS ((sSeq (sIf (eOrT (eNotT (eTru (eC (.bl true)))) (eTst (eBin oNe (eBlt bLen (eCons (eVb 0) eNil)) (eC (.int 2))))) (sRet (eC (.bl false))) sNil)
    (sRet (eAnd (eCall0 φ_is_between (eCons (eBin oIx (eVb 0) (eC (.int 0))) (eCons (eC (.int 1)) (eCons (eC (.int 1000000)) eNil)))) (eCall0 φ_is_between (eCons (eBin oIx (eVb 0) (eC (.int 1))) (eCons (eV 1) (eCons (eV 2) eNil))))))) [some (.sh (mk ds)), some (.sh (.int a)), some (.sh (.int b))] S) (fun _ S => Q .non S) Q (fun _ _ => False) (fun _ _ => False) = Q (.bl (pairL a b ds)) S := by
    intro mk hm ds hd
    have hlen : ∀ Q : D → Sto → Prop, Ev (bLen [mk ds] S) Q = Q (.int ds.length) S := fun Q => by
      rcases hm with rfl | rfl <;> simp
    simp only [↓es_seq, ↓es_if, ↓ev_eOrT, ↓ev_eNotT, ↓ev_eTru, ↓ev_eC, ↓wt_b, Bool.not_true, Bool.false_eq_true, if_false, ↓ev_eTst, ↓ev_eBin, ↓ev_eBlt, ↓ev_eCons, ↓ev_eVb0, ↓ev_eNil, ↓hlen, ↓neI2]
    by_cases h2 : ds.length = 2
    · obtain ⟨x, y, rfl⟩ : ∃ x y, ds = [x, y] := by
        match ds, h2 with
        | [x, y], _ => exact ⟨x, y, rfl⟩
      have hx := pdAll_mem hd x (by simp)
      have hy := pdAll_mem hd y (by simp)
      have i0 : ∀ Q : D → Sto → Prop, Ev (oIx (mk [x, y]) (.int 0) S) Q = Q x S := fun Q => by rcases hm with rfl | rfl <;> exact Ev.of rfl
      have i1 : ∀ Q : D → Sto → Prop, Ev (oIx (mk [x, y]) (.int 1) S) Q = Q y S := fun Q => by rcases hm with rfl | rfl <;> exact Ev.of rfl
      simp [↓i0, ↓i1, ↓betw_any hx, ↓betw_any hy, MM, pairL]
      by_cases hb : betw 1 1000000 x = true
      · simp [hb]
      · simp [Bool.eq_false_iff.mpr hb]
    · have hz : ¬ ((ds.length : Int) = 2) := by omega
      simp only [hz, decide_false, Bool.not_false, if_true, ↓es_ret, ↓ev_eC]
      congr 1
      match ds, h2 with
      | [], _ => rfl
      | [_], _ => rfl
      | [_, _], h2 => exact absurd rfl h2
      | _ :: _ :: _ :: _, _ => rfl
  cases d <;> first
    | (cases h; done)
    | (rename_i ds
       have k := key (.inl rfl) ds h
       simp only [↓es_seq, ↓es_if, ↓ev_eOrT, ↓ev_eNotT, ↓ev_eTru, ↓ev_eC, ↓wt_b] at k
       exact k)
    | (rename_i ds
       have k := key (.inr rfl) ds h
       simp only [↓es_seq, ↓es_if, ↓ev_eOrT, ↓ev_eNotT, ↓ev_eTru, ↓ev_eC, ↓wt_b] at k
       exact k)
    | (simp [seqD, pairOk])
end
end DL

namespace DL
open PySem PySem.Spec PyProof.Rows L2
/-- the pair of a datum -/
def pr (d : D) : P2 := match seqD d with
  | some [.int a, .int b] => (a, b)
  | _ => (0, 0)
def okC (d : D) : Bool := pairOk 0 MM d && decide ((pr d).2 ≤ (pr d).1)
def retag (d : D) (cs : List D) : D := match d with
  | .lst _ => .lst cs
  | _ => .tup cs
def fallB (p q : P2) : Bool := decide (p.1 < q.1) && decide (q.2 < p.2)
def fallO (a : Option P2) (p : P2) : Bool := match a with
  | none => true
  | some q => fallB q p
def soGo : Option P2 → List D → Bool
  | _, [] => true
  | a, c :: cs => okC c && fallO a (pr c) && soGo (some (pr c)) cs
def so (d : D) : Bool := match seqD d with
  | some cs => soGo none cs
  | none => false
def headO (a : Option P2) (cs : List D) : Bool := match cs with
  | c :: _ => fallO a (pr c)
  | [] => true
theorem soGo_eq : ∀ (cs : List D) (a : Option P2), soGo a cs = (cs.all (pairOk 0 MM) && (cs.all fun c => decide ((pr c).2 ≤ (pr c).1)) && (headO a cs && (cs.zip (cs.drop 1)).all fun q => fallB (pr q.1) (pr q.2)))
  | [], a => rfl
  | c :: cs, a => by
    show (okC c && fallO a (pr c) && soGo (some (pr c)) cs) = _
    rw [soGo_eq cs (some (pr c))]
    have e : ((c :: cs).zip ((c :: cs).drop 1)).all (fun q => fallB (pr q.1) (pr q.2)) = (headO (some (pr c)) cs && (cs.zip (cs.drop 1)).all fun q => fallB (pr q.1) (pr q.2)) := by
      cases cs with
      | nil => rfl
      | cons c' r => rfl
    rw [e, List.all_cons, List.all_cons]
    unfold okC
    rw [show headO a (c :: cs) = fallO a (pr c) from rfl]
    generalize headO (some (pr c)) cs = x1
    generalize pairOk 0 MM c = x2
    generalize decide ((pr c).2 ≤ (pr c).1) = x3
    generalize fallO a (pr c) = x4
    generalize cs.all (pairOk 0 MM) = x5
    generalize (cs.all fun c => decide ((pr c).2 ≤ (pr c).1)) = x6
    generalize ((cs.zip (cs.drop 1)).all fun q => fallB (pr q.1) (pr q.2)) = x7
    revert x1 x2 x3 x4 x5 x6 x7
    decide
theorem pairOk_pr {a b : Int} {d : D} (h : pairOk a b d = true) : ∃ (x y : Int) (mk : List D → D), (mk = D.lst ∨ mk = D.tup) ∧ d = mk [.int x, .int y] ∧ pr d = (x, y) ∧ 1 ≤ x ∧ x ≤ MM ∧ a ≤ y ∧ y ≤ b := by
  have key : ∀ (mk : List D → D) (hm : mk = D.lst ∨ mk = D.tup) (ds : List D), d = mk ds → ∃ (x y : Int) (mk : List D → D), (mk = D.lst ∨ mk = D.tup) ∧ d = mk [.int x, .int y] ∧ pr d = (x, y) ∧ 1 ≤ x ∧ x ≤ MM ∧ a ≤ y ∧ y ≤ b := by
    intro mk hm ds e
    have hs : seqD d = some ds := by rw [e]; rcases hm with rfl | rfl <;> rfl
    unfold pairOk at h
    rw [hs] at h
    replace h : pairL a b ds = true := h
    unfold pairL at h
    split at h
    · rename_i u v
      rw [Bool.and_eq_true] at h
      obtain ⟨h1, h2⟩ := h
      have bi : ∀ {l m : Int} {w : D}, betw l m w = true → ∃ i, w = .int i ∧ l ≤ i ∧ i ≤ m := by
        intro l m w hw
        unfold betw at hw
        cases w <;> first
          | (cases hw; done)
          | (rename_i i
             have hw' : (decide (l ≤ i) && decide (i ≤ m)) = true := hw
             rw [Bool.and_eq_true, decide_eq_true_eq, decide_eq_true_eq] at hw'
             exact ⟨i, rfl, hw'⟩)
      obtain ⟨x, rfl, hx⟩ := bi h1
      obtain ⟨y, rfl, hy⟩ := bi h2
      refine ⟨x, y, mk, hm, e, ?_, hx.1, hx.2, hy.1, hy.2⟩
      unfold pr
      rw [hs]
    · cases h
  cases d <;> first
    | exact key _ (.inl rfl) _ rfl
    | exact key _ (.inr rfl) _ rfl
    | (cases h; done)
section
variable {S R : Sto} {Q : D → Sto → Prop} {n : Int}
theorem zipD_zip (xs ys : List D) : zipD xs ys = (xs.zip ys).map fun q => .tup [q.1, q.2] := by
  unfold zipD
  rw [List.zip, List.map_zipWith]
theorem cut1D (cs : List D) : cutD cs (some 1) none = cs.drop 1 := by
  unfold cutD
  rw [show HT.sIx cs.length 0 (some 1) = min 1 cs.length from HT.sIx_nat _ 0 1, HT.sIx_none]
  cases cs with
  | nil => rfl
  | cons p r =>
    rw [show min 1 (p :: r).length = 1 by simp]
    exact List.take_of_length_le (by simp)
theorem stair_any {d : D} (h : pd d = true) : Ev (φ_is_stair [d] S) Q = Q (.bl (so d)) S := Ev.of (Ev.eq (by
  rw [e_is_stair]
  unfold b_is_stair
  simp only [↓es_seq, ↓es_if, ↓ev_eOrT, ↓ev_eNotT, ↓ev_eTru, ↓ev_eCall0, ↓ev_eCons, ↓ev_eV0, ↓ev_eNil, ↓listed_any h, ↓wt_b]
  cases hs : seqD d with
  | none =>
    simp [so, hs]
  | some cs =>
    have hd := pd_seq h hs
    have hw : ∀ k : List D → Prop, withSeq d k = k cs := fun k => by unfold withSeq; rw [hs]
    simp only [Option.isSome_some, Bool.not_true, Bool.false_eq_true, if_false, ↓ev_eBlt, ↓ev_eCons, ↓ev_eLst, ↓ev_eComp, ↓ev_iD, ↓ev_eV0, ↓hw, ↓ww_0, ↓ww_s, ↓ws_0, ↓ws_s, ↓ev_eNil]
    rw [compGo_allD (fun c => .bl (pairOk 0 MM c)) cs fun c hc => by simp [↓pair_any (pdAll_mem hd c hc), MM]]
    simp only [↓ev_allB, ↓wt_b]
    have hso : so d = soGo none cs := by unfold so; rw [hs]
    rw [soGo_eq] at hso
    cases ha : cs.all (pairOk 0 MM) with
    | false =>
      rw [ha] at hso
      simp [hso]
    | true =>
      rw [ha] at hso
      rw [List.all_eq_true] at ha
      simp only [Bool.not_true, Bool.false_eq_true, if_false, ↓es_nil, ↓ev_eBlt, ↓ev_eCons, ↓ev_eLst, ↓ev_eComp, ↓ev_iD, ↓ev_eV0, ↓hw, ↓ww_0, ↓ww_s, ↓ws_0, ↓ws_s, ↓ev_eNil]
      rw [compGo_allD (fun c => .bl (decide ((pr c).2 ≤ (pr c).1))) cs fun c hc => by
        obtain ⟨x, y, mk, hm, e, e2, _⟩ := pairOk_pr (ha c hc)
        rw [e2]
        rcases hm with rfl | rfl
        · rw [e]; simp only [↓wg_2l, ↓wg_n, ↓ws_0, ↓ws_s, ↓ev_eBin, ↓ev_eVbs, ↓ev_eVb0, ↓ev_oLe]; first | exact ⟨rfl, rfl⟩ | exact ⟨rfl, trivial⟩ | exact ⟨trivial, trivial⟩
        · rw [e]; simp only [↓wg_2, ↓wg_n, ↓ws_0, ↓ws_s, ↓ev_eBin, ↓ev_eVbs, ↓ev_eVb0, ↓ev_oLe]; first | exact ⟨rfl, rfl⟩ | exact ⟨rfl, trivial⟩ | exact ⟨trivial, trivial⟩]
      simp only [↓ev_allB, ↓wt_b]
      cases hb : cs.all (fun c => decide ((pr c).2 ≤ (pr c).1)) with
      | false =>
        rw [hb] at hso
        simp [hso]
      | true =>
        rw [hb] at hso
        have hcut : ∀ (Q : D → Sto → Prop) (env : Env), Ev (eSl (eVb 0) (oSo (eC (.int 1))) oNo (some (.sh d) :: env) S) Q = Q (retag d (cs.drop 1)) S := fun Q env => by
          rw [oSo_int, oNo_eq, ev_eSl, ev_eVb0]
          cases d <;> first
            | (cases hs; exact congrArg (fun z => Q (D.lst z) S) (cut1D cs))
            | (cases hs; exact congrArg (fun z => Q (D.tup z) S) (cut1D cs))
            | (cases hs; done)
        have htwo : ∀ k : List D → List D → Prop, withTwo d (retag d (cs.drop 1)) k = k cs (cs.drop 1) := fun k => by
          cases d <;> first
            | (cases hs; rfl)
            | (cases hs; done)
        simp only [Bool.not_true, Bool.false_eq_true, if_false, ↓es_nil, ↓es_ret, ↓ev_eBlt, ↓ev_eCons, ↓ev_eLst, ↓ev_eComp, ↓ev_iZi, ↓ev_eV0, ↓hcut, ↓htwo, ↓ww_0, ↓ww_s, ↓ws_0, ↓ws_s, ↓ev_eNil]
        rw [zipD_zip, compGo_all (fun q : D × D => D.tup [q.1, q.2]) (fun q => .bl (fallB (pr q.1) (pr q.2))) (cs.zip (cs.drop 1)) fun q hq => by
          have hq1 := (List.of_mem_zip hq).1
          have hq2 := List.mem_of_mem_drop (List.of_mem_zip hq).2
          obtain ⟨x, y, mk, hm, e, e2, _⟩ := pairOk_pr (ha q.1 hq1)
          obtain ⟨u, v, mk', hm', e', e2', _⟩ := pairOk_pr (ha q.2 hq2)
          rw [e2, e2', e, e']
          have i0 : ∀ {mk : List D → D} (hm : mk = D.lst ∨ mk = D.tup) (x y : Int) (Q : D → Sto → Prop), Ev (oIx (mk [.int x, .int y]) (.int 0) S) Q = Q (.int x) S := fun hm x y Q => by rcases hm with rfl | rfl <;> exact Ev.of rfl
          have i1 : ∀ {mk : List D → D} (hm : mk = D.lst ∨ mk = D.tup) (x y : Int) (Q : D → Sto → Prop), Ev (oIx (mk [.int x, .int y]) (.int 1) S) Q = Q (.int y) S := fun hm x y Q => by rcases hm with rfl | rfl <;> exact Ev.of rfl
          simp only [↓wg_2, ↓wg_n, ↓ws_0, ↓ws_s, ↓ev_eAnd, ↓ev_eBin, ↓ev_eVbs, ↓ev_eVb0, ↓ev_eC, ↓i0 hm, ↓i1 hm, ↓i0 hm', ↓i1 hm', ↓ev_oLt, ↓ev_oGt]
          unfold fallB
          by_cases h1 : x < u
          · simp only [h1, decide_true, if_true, Bool.true_and]
            first | exact ⟨rfl, rfl⟩ | exact ⟨rfl, trivial⟩ | exact ⟨trivial, trivial⟩ | trivial
          · simp only [h1, decide_false, Bool.false_eq_true, if_false, Bool.false_and]
            first | exact ⟨rfl, rfl⟩ | exact ⟨rfl, trivial⟩ | exact ⟨trivial, trivial⟩ | trivial]
        simp only [↓ev_allB]
        rw [hso, show headO none cs = true by cases cs <;> rfl]
        simp))
end
end DL

/-! KY1: rows of numbers limit by limit, and the stairs of such rows. Plain lists. -/
namespace DL
/-- the least of some -/
def minO : List Int → Option Int
  | [] => none
  | n :: r => some (r.foldl min n)
theorem minO_le : ∀ {ns : List Int} {L : Int}, (∃ v, minO ns = some v ∧ v ≤ L) ↔ ∃ x ∈ ns, x ≤ L
  | [], L => by simp [minO]
  | n :: r, L => by
    unfold minO
    constructor
    · rintro ⟨v, e, h⟩
      cases e
      rcases (foldl_min_le r n L).mp h with z | ⟨x, hx, z⟩
      · exact ⟨n, by simp, z⟩
      · exact ⟨x, by simp [hx], z⟩
    · rintro ⟨x, hx, z⟩
      refine ⟨_, rfl, (foldl_min_le r n L).mpr ?_⟩
      rcases List.mem_cons.mp hx with e | e
      · exact .inl (by rw [← e]; exact z)
      · exact .inr ⟨x, e, z⟩
theorem minO_mem : ∀ {ns : List Int} {v : Int}, minO ns = some v → v ∈ ns
  | [], v, h => by cases h
  | n :: r, v, h => by
    have h : some (r.foldl min n) = some v := h
    cases h
    have go : ∀ (r : List Int) (n : Int), r.foldl min n ∈ n :: r := by
      intro r
      induction r with
      | nil => intro n; simp
      | cons x r ih =>
        intro n
        rw [List.foldl_cons]
        rcases List.mem_cons.mp (ih (min n x)) with e | e
        · rcases Int.le_total n x with z | z
          · rw [e, show min n x = n by omega]; simp
          · rw [e, show min n x = x by omega]; simp
        · simp [e]
    exact go r n
/-- numbers at limits: told by what they allow -/
def Alw (x : Option Int) (L c : Int) : Prop := ∃ n, x = some n ∧ n + c ≤ L
theorem opt_ext {x y : Option Int} {L : Int} (hx : ∀ n, x = some n → n ≤ L) (hy : ∀ n, y = some n → n ≤ L) (h : ∀ c : Int, 0 ≤ c → (Alw x L c ↔ Alw y L c)) : x = y := by
  have one : ∀ {x y : Option Int}, (∀ n, x = some n → n ≤ L) → (∀ c : Int, 0 ≤ c → Alw x L c → Alw y L c) → ∀ n, x = some n → ∃ m, y = some m ∧ m ≤ n := fun {x y} hx h n e => by
    have := hx n e
    obtain ⟨m, e2, h2⟩ := h (L - n) (by omega) ⟨n, e, by omega⟩
    exact ⟨m, e2, by omega⟩
  cases x with
  | none =>
    cases y with
    | none => rfl
    | some m =>
      obtain ⟨_, e, _⟩ := one hy (fun c hc => (h c hc).mpr) m rfl
      cases e
  | some n =>
    obtain ⟨m, e, h1⟩ := one hx (fun c hc => (h c hc).mp) n rfl
    obtain ⟨k, e2, h2⟩ := one hy (fun c hc => (h c hc).mpr) m e
    cases e2
    rw [e]
    congr 1
    omega
/-- the least number of pairs at a limit -/
def rowAt (ps : List P2) (L : Int) : Option Int := minO ((ps.filter fun p => decide (p.1 ≤ L) && decide (p.2 ≤ L)).map Prod.snd)
theorem rowAt_alw {ps : List P2} {L c : Int} (hc : 0 ≤ c) : Alw (rowAt ps L) L c ↔ Al ps c L := by
  unfold Alw rowAt Al
  have e : ∀ n : Int, n + c ≤ L ↔ n ≤ L - c := fun n => by omega
  simp only [e]
  rw [minO_le]
  constructor
  · rintro ⟨x, hx, h⟩
    obtain ⟨p, hp, rfl⟩ := List.mem_map.mp hx
    rw [List.mem_filter, Bool.and_eq_true, decide_eq_true_eq, decide_eq_true_eq] at hp
    exact ⟨p, hp.1, hp.2.1, h⟩
  · rintro ⟨p, hp, h1, h2⟩
    refine ⟨p.2, List.mem_map.mpr ⟨p, ?_, rfl⟩, h2⟩
    rw [List.mem_filter, Bool.and_eq_true, decide_eq_true_eq, decide_eq_true_eq]
    exact ⟨hp, h1, by omega⟩
theorem rowAt_le {ps : List P2} {L n : Int} (h : rowAt ps L = some n) : n ≤ L := by
  obtain ⟨p, hp, rfl⟩ := List.mem_map.mp (minO_mem h)
  rw [List.mem_filter, Bool.and_eq_true, decide_eq_true_eq, decide_eq_true_eq] at hp
  exact hp.2.2
theorem rowAt_ge {ps : List P2} {L n : Int} (hp : ∀ p ∈ ps, 0 ≤ p.2) (h : rowAt ps L = some n) : 0 ≤ n := by
  obtain ⟨p, h1, rfl⟩ := List.mem_map.mp (minO_mem h)
  exact hp p (List.mem_filter.mp h1).1
/-- a row of numbers by limits: no number is above its limit; once there is one, it stays and never rises -/
structure Row (f : Int → Option Int) : Prop where
  b : ∀ {L n : Int}, f L = some n → 0 ≤ n ∧ n ≤ L
  up : ∀ {L M n : Int}, f L = some n → L ≤ M → ∃ k, f M = some k ∧ k ≤ n
theorem row_rowAt {ps : List P2} (hp : ∀ p ∈ ps, 0 ≤ p.2) : Row (rowAt ps) where
  b := fun h => ⟨rowAt_ge hp h, rowAt_le h⟩
  up := fun {L M n} h hLM => by
    have h1 := rowAt_le h
    obtain ⟨p, hp, h2, h3⟩ := (rowAt_alw (c := L - n) (by omega)).mp ⟨n, h, by omega⟩
    obtain ⟨k, e, h4⟩ := (rowAt_alw (ps := ps) (L := M) (c := M - n) (by omega)).mpr ⟨p, hp, by omega, by omega⟩
    exact ⟨k, e, by omega⟩
/-- the number at a limit of a cut stair is that of its pairs -/
theorem numIn_cut {ps : List P2} {b : Int} (hb : ∀ p ∈ ps, 1 ≤ p.1 ∧ p.1 ≤ b ∧ 0 ≤ p.2 ∧ p.2 ≤ b) (L : Int) : numIn (cutP ps) L = rowAt ps L := by
  have st := cut_stair hb
  refine opt_ext (L := L) (fun n h => (numIn_bounds st h).2) (fun n h => rowAt_le h) fun c hc => ?_
  rw [rowAt_alw hc, ← cut_al hc, al_num st]
  exact Iff.rfl
theorem row_num {s : List P2} {b : Int} (hs : Stair b s) : Row (numIn s) where
  b := fun h => numIn_bounds hs h
  up := fun h hLM => numIn_anti hs h hLM
theorem num_rowAt {s : List P2} {b : Int} (hs : Stair b s) (L : Int) : rowAt s L = numIn s L := by
  refine opt_ext (L := L) (fun n h => rowAt_le h) (fun n h => (numIn_bounds hs h).2) fun c hc => ?_
  rw [rowAt_alw hc, al_num hs]
  exact Iff.rfl

/-! ### the stair of a row -/
def lastGt (s : List P2) (v : Int) : Bool := match s.getLast? with
  | some q => decide (v < q.2)
  | none => true
def ofStep (s : List P2) (j : Int) : Option Int → List P2
  | none => s
  | some v => if v ≤ j ∧ lastGt s v = true then s ++ [(j, v)] else s
def ofGo : Int → List P2 → List (Option Int) → List P2
  | _, s, [] => s
  | j, s, x :: r => ofGo (j + 1) (ofStep s j x) r
/-- the corners of a row, the first number standing at limit 1 -/
def ofL (row : List (Option Int)) : List P2 := ofGo 1 [] row
def rowOf (f : Int → Option Int) (m : Nat) : List (Option Int) := (List.range m).map fun (i : Nat) => f (1 + (i : Int))
/-- what is known behind the limits below j -/
structure OfOk (f : Int → Option Int) (j : Int) (s : List P2) : Prop where
  st : Stair (j - 1) s
  num : ∀ L : Int, 1 ≤ L → numIn s L = if L < j then f L else if 1 < j then f (j - 1) else none
theorem numIn_snoc_lt {s : List P2} {j v L : Int} (h : L < j) : numIn (s ++ [(j, v)]) L = numIn s L := by
  unfold numIn
  rw [List.filter_append]
  have : decide (j ≤ L) = false := by simp; omega
  simp [this]
theorem numIn_snoc_ge {s : List P2} {j v L : Int} (h : j ≤ L) : numIn (s ++ [(j, v)]) L = some v := by
  unfold numIn
  rw [List.filter_append]
  have : decide (j ≤ L) = true := by simp; omega
  simp [this]
theorem last_num {b : Int} {s : List P2} {q : P2} (hs : Stair b s) (h : s.getLast? = some q) {L : Int} (hL : b ≤ L) : numIn s L = some q.2 := by
  unfold numIn
  have : s.filter (fun p => decide (p.1 ≤ L)) = s := List.filter_eq_self.mpr fun p hp => by
    have := hs.at_ p hp
    simp; omega
  rw [this, List.getLast?_map, h]
  rfl
theorem ofStep_ok {f : Int → Option Int} {j : Int} {s : List P2} (hf : Row f) (hj : 1 ≤ j) (h : OfOk f j s) : OfOk f (j + 1) (ofStep s j (f j)) := by
  have e1 : ¬ (j + 1 < j) := by omega
  cases hv : f j with
  | none =>
    -- nothing before either
    have none_before : ∀ L : Int, 1 ≤ L → L < j → f L = none := fun L h1 h2 => by
      cases e : f L with
      | none => rfl
      | some n =>
        obtain ⟨k, e2, _⟩ := hf.up e (Int.le_of_lt h2)
        rw [hv] at e2
        cases e2
    show OfOk f (j + 1) s
    refine ⟨h.st.mono (by omega), fun L h1 => ?_⟩
    rw [h.num L h1]
    by_cases a : L < j
    · rw [if_pos a, if_pos (by omega)]
    · rw [if_neg a]
      by_cases b : L < j + 1
      · rw [if_pos b, show L = j by omega, hv]
        by_cases c : 1 < j
        · rw [if_pos c]; exact none_before (j - 1) (by omega) (by omega)
        · rw [if_neg c]
      · rw [if_neg b, show (if 1 < j + 1 then f (j + 1 - 1) else none) = none by rw [if_pos (by omega), show j + 1 - 1 = j by omega, hv]]
        by_cases c : 1 < j
        · rw [if_pos c]; exact none_before (j - 1) (by omega) (by omega)
        · rw [if_neg c]
  | some v =>
    have hb := hf.b hv
    show OfOk f (j + 1) (if v ≤ j ∧ lastGt s v = true then s ++ [(j, v)] else s)
    by_cases g : lastGt s v = true
    · rw [if_pos ⟨hb.2, g⟩]
      refine ⟨⟨fun p hp => ?_, ?_⟩, fun L h1 => ?_⟩
      · rcases List.mem_append.mp hp with z | z
        · have := h.st.at_ p z; omega
        · have e : p = (j, v) := by simpa using z
          rw [e]
          show 1 ≤ j ∧ j ≤ j + 1 - 1 ∧ 0 ≤ v ∧ v ≤ j
          omega
      · rw [List.pairwise_append]
        refine ⟨h.st.fal, List.pairwise_singleton _ _, fun p hp r hr => ?_⟩
        have e : r = (j, v) := by simpa using hr
        rw [e]
        have hp1 := h.st.at_ p hp
        refine ⟨by show p.1 < j; omega, ?_⟩
        show v < p.2
        rcases snoc_of s with z | ⟨f', q, z⟩
        · rw [z] at hp; exact absurd hp (by simp)
        · have hl : s.getLast? = some q := by rw [z, List.getLast?_concat]
          unfold lastGt at g
          rw [hl] at g
          have hq : v < q.2 := by simpa using g
          rw [z] at hp
          rcases List.mem_append.mp hp with y | y
          · have := h.st.fal
            rw [z, List.pairwise_append] at this
            have := (this.2.2 p y q (by simp)).2
            omega
          · have e2 : p = q := by simpa using y
            rw [e2]; exact hq
      · by_cases a : L < j
        · rw [numIn_snoc_lt a, h.num L h1, if_pos a, if_pos (by omega)]
        · rw [numIn_snoc_ge (by omega)]
          by_cases b : L < j + 1
          · rw [if_pos b, show L = j by omega, hv]
          · rw [if_neg b, if_pos (by omega), show j + 1 - 1 = j by omega, hv]
    · rw [if_neg (fun z => g z.2)]
      have hl : ∃ q, s.getLast? = some q ∧ q.2 ≤ v := by
        unfold lastGt at g
        cases e : s.getLast? with
        | none => rw [e] at g; exact absurd rfl g
        | some q =>
          rw [e] at g
          exact ⟨q, rfl, by simpa using g⟩
      obtain ⟨q, hl, hqv⟩ := hl
      have big : ∀ L : Int, j ≤ L → numIn s L = some v := fun L hL => by
        have n1 := last_num h.st hl (L := L) (by omega)
        have n2 := h.num L (by omega)
        rw [n1, if_neg (by omega)] at n2
        by_cases c : 1 < j
        · rw [if_pos c] at n2
          obtain ⟨k, e2, h2⟩ := hf.up n2.symm (show j - 1 ≤ j by omega)
          rw [hv] at e2
          cases e2
          rw [n1]
          congr 1
          omega
        · rw [if_neg c] at n2
          cases n2
      refine ⟨h.st.mono (by omega), fun L h1 => ?_⟩
      by_cases a : L < j
      · rw [h.num L h1, if_pos a, if_pos (by omega)]
      · rw [big L (by omega)]
        by_cases b : L < j + 1
        · rw [if_pos b, show L = j by omega, hv]
        · rw [if_neg b, if_pos (by omega), show j + 1 - 1 = j by omega, hv]
theorem ofGo_ok {f : Int → Option Int} (hf : Row f) : ∀ (m k : Nat) (s : List P2), OfOk f (1 + (k : Int)) s → OfOk f (1 + ((k + m : Nat) : Int)) (ofGo (1 + (k : Int)) s ((List.range' k m).map fun (i : Nat) => f (1 + (i : Int))))
  | 0, k, s, h => h
  | m + 1, k, s, h => by
    rw [List.range'_succ, List.map_cons]
    have h2 := ofStep_ok hf (by omega) h
    have e : (1 + (k : Int)) + 1 = 1 + ((k + 1 : Nat) : Int) := by omega
    have := ofGo_ok hf m (k + 1) _ (e ▸ h2)
    rw [show k + 1 + m = k + (m + 1) by omega] at this
    show OfOk f _ (ofGo (1 + (k : Int) + 1) _ _)
    rw [e]
    exact this
theorem ofL_ok {f : Int → Option Int} (hf : Row f) (m : Nat) : OfOk f (1 + (m : Int)) (ofL (rowOf f m)) := by
  have h0 : OfOk f (1 + ((0 : Nat) : Int)) [] := ⟨⟨fun p hp => absurd hp (by simp), List.Pairwise.nil⟩, fun L h1 => by
    rw [if_neg (by omega), if_neg (by omega)]
    rfl⟩
  have := ofGo_ok hf m 0 [] h0
  rw [← List.range_eq_range', Nat.zero_add] at this
  exact this
/-- the stair of a row has the row's numbers -/
theorem ofL_num {f : Int → Option Int} (hf : Row f) {m : Nat} {L : Int} (h1 : 1 ≤ L) (h2 : L ≤ m) : numIn (ofL (rowOf f m)) L = f L := by
  rw [(ofL_ok hf m).num L h1, if_pos (by omega)]
theorem ofL_stair {f : Int → Option Int} (hf : Row f) (m : Nat) : Stair m (ofL (rowOf f m)) := (ofL_ok hf m).st.mono (by omega)
theorem ofL_eq {f : Int → Option Int} (hf : Row f) {m : Nat} {t : List P2} (ht : Stair m t) (h : ∀ L : Int, 1 ≤ L → L ≤ m → numIn t L = f L) : ofL (rowOf f m) = t :=
  stair_ext (ofL_stair hf m) ht fun L h1 h2 => by rw [ofL_num hf h1 h2, h L h1 h2]
/-- the stair of a row of pairs is the cut of the pairs -/
theorem ofL_cut {ps : List P2} {m : Nat} (hb : ∀ p ∈ ps, 1 ≤ p.1 ∧ p.1 ≤ m ∧ 0 ≤ p.2 ∧ p.2 ≤ m) : ofL (rowOf (rowAt ps) m) = cutP ps :=
  ofL_eq (row_rowAt fun p hp => (hb p hp).2.2.1) (cut_stair hb) fun L _ _ => numIn_cut hb L
theorem cut_same {s : List P2} {b : Int} (hs : Stair b s) {ps : List P2} (hb : ∀ p ∈ ps, 1 ≤ p.1 ∧ p.1 ≤ b ∧ 0 ≤ p.2 ∧ p.2 ≤ b) (h : ∀ c L : Int, 0 ≤ c → (Al ps c L ↔ Al s c L)) : cutP ps = s :=
  stair_ext (cut_stair hb) hs fun L h1 h2 => by
    rw [numIn_cut hb]
    refine opt_ext (L := L) (fun n h => rowAt_le h) (fun n h => (numIn_bounds hs h).2) fun c hc => ?_
    rw [rowAt_alw hc, h c L hc, al_num hs]
    exact Iff.rfl
end DL

namespace DL
open PySem PySem.Spec PyProof.Rows L2
/-! KE1: stairs, evaluated (from KX3b, KY3, KY5). -/
section
variable {S R : Sto} {Q : D → Sto → Prop} {n : Int}
theorem someStair_k {m : Int} (m1 : 1 ≤ m) (m2 : m ≤ 50) (h : PenR R n S) (hn : n < 1000000) (q : ∀ (s : List P2) (S' : Sto), Stair (m + 3) s → s ≠ [] → s.length ≤ 100 → PenR R (n + 12) S' → Q (dStair s) S') : Ev (φ__law_some_stair [.mu 0, .int m] S) Q := by
  rw [e__law_some_stair]
  unfold b__law_some_stair
  simp only [↓es_seq, ↓es_set, ↓ev_eCall0, ↓ev_eCons, ↓ev_eV0, ↓ev_eVs, ↓ev_eNil]
  refine stair_k m1 m2 h hn fun s S1 hs hl p1 => ?_
  simp only [↓ws_0, ↓ws_s, ↓es_ret, ↓ev_eIf, ↓ev_eTst, ↓ev_eBin, ↓ev_eVbs, ↓ev_eVb0, ↓ev_eTup, ↓ev_eNil]
  refine ⟨by show 0 ≤ 1000; decide, ?_⟩
  simp only [↓ne_emptyT]
  by_cases he : s = []
  · subst he
    simp only [decide_true, Bool.not_true, Bool.false_eq_true, if_false, ↓ev_eTup, ↓ev_eCons, ↓ev_eBin, ↓ev_eC, ↓ev_eCall0, ↓ev_eV0, ↓ev_eVs, ↓ev_eNil]
    refine draw_k p1 (by omega) (by omega) (by omega) fun x S2 x0 x1 p2 => ?_
    simp only [↓ev_oAdd]
    refine ⟨by show 2 ≤ 1000; decide, by show 1 ≤ 1000; decide, ?_⟩
    exact q [(1 + x, 1)] S2 ⟨fun p hp => by
      have e : p = (1 + x, 1) := by simpa using hp
      rw [e]
      show 1 ≤ 1 + x ∧ 1 + x ≤ m + 3 ∧ (0:Int) ≤ 1 ∧ 1 ≤ 1 + x
      omega, List.pairwise_singleton _ _⟩ (by simp) (by simp) (p2.mono (by omega))
  · simp only [decide_eq_false he, Bool.not_false, if_true, ↓ev_eVs, ↓ev_eV0]
    exact q s S1 hs he hl (p1.mono (by omega))
theorem numIn_ev {s : List P2} {L : Int} : Ev (φ_number_in [dStair s, .int L] S) Q = Q (dOpt (numIn s L)) S := Ev.of (Ev.eq (by
  rw [e_number_in]
  unfold b_number_in dStair
  simp only [↓es_seq, ↓es_set, ↓ev_eLst, ↓ev_eComp, ↓ev_iD, ↓ev_eV0, ↓wq_t, ↓ww_0, ↓ww_s, ↓ws_0, ↓ws_s]
  rw [compGo_pure dPair (fun p => decide (p.1 ≤ L)) (fun p => .int p.2) s fun p hp => by simp]
  unfold numIn
  rcases snoc_of (s.filter fun p => decide (p.1 ≤ L)) with h | ⟨f, q, h⟩
  · rw [h]
    simp [opt_non]
  · rw [h]
    simp only [List.map_append, List.map_cons, List.map_nil, List.getLast?_concat]
    simp [opt_int]))
def dIn : Bool → P2 → D
  | true, p => .lst [.int p.1, .int p.2]
  | false, p => dPair p
def dS : Bool → Bool → List P2 → D
  | true, i, s => .lst (s.map (dIn i))
  | false, i, s => .tup (s.map (dIn i))
theorem dS_ff (s : List P2) : dS false false s = dStair s := rfl
theorem seq_dS (o i : Bool) (s : List P2) : seqD (dS o i s) = some (s.map (dIn i)) := by cases o <;> rfl
theorem pr_dIn (i : Bool) (p : P2) : pr (dIn i p) = p := by cases i <;> rfl
theorem pd_dIn (i : Bool) (p : P2) : pd (dIn i p) = true := by cases i <;> rfl
theorem pdAll_map {γ : Type} {f : γ → D} (h : ∀ x, pd (f x) = true) : ∀ l : List γ, pdAll (l.map f) = true
  | [] => rfl
  | x :: l => by
    show (pd (f x) && pdAll (l.map f)) = true
    rw [h x, pdAll_map h l]
    rfl
theorem pd_dS (o i : Bool) (s : List P2) : pd (dS o i s) = true := by cases o <;> exact pdAll_map (pd_dIn i) s
theorem so_go {b : Int} (hb : b ≤ 1000000) (i : Bool) : ∀ (s : List P2) (a : Option P2), Stair b s → (∀ q, a = some q → ∀ p ∈ s, Falls q p) → soGo a (s.map (dIn i)) = true
  | [], a, _, _ => rfl
  | p :: r, a, hs, ha => by
    have hp := hs.at_ p (by simp)
    show (okC (dIn i p) && fallO a (pr (dIn i p)) && soGo (some (pr (dIn i p))) (r.map (dIn i))) = true
    rw [pr_dIn, so_go hb i r (some p) hs.tail fun q e x hx => by
      cases e
      exact (List.pairwise_cons.mp hs.fal).1 x hx]
    have h1 : okC (dIn i p) = true := by
      have h : pairOk 0 MM (dIn i p) = true := by
        have e : pairOk 0 MM (dIn i p) = (betw 1 MM (.int p.1) && betw 0 MM (.int p.2)) := by cases i <;> rfl
        rw [e]
        obtain ⟨a1, a2, a3, a4⟩ : 1 ≤ p.1 ∧ p.1 ≤ 1000000 ∧ 0 ≤ p.2 ∧ p.2 ≤ 1000000 := by omega
        simp [betw, intD, MM, a1, a2, a3, a4]
      unfold okC
      rw [h, pr_dIn]
      simp
      omega
    have h2 : fallO a p = true := by
      cases a with
      | none => rfl
      | some q =>
        have := ha q rfl p (by simp)
        show (decide (q.1 < p.1) && decide (p.2 < q.2)) = true
        simp
        exact this
    rw [h1, h2]
    rfl
theorem so_dS {b : Int} {s : List P2} (hs : Stair b s) (hb : b ≤ 1000000) (o i : Bool) : so (dS o i s) = true := by
  unfold so
  rw [seq_dS]
  exact so_go hb i s none hs fun q e => by cases e
theorem fixed_dS (o i : Bool) (s : List P2) : Ev (φ_fixed_stair [dS o i s] S) Q = Q (dStair s) S := Ev.of (Ev.eq (by
  rw [e_fixed_stair]
  unfold b_fixed_stair
  simp only [↓es_ret, ↓ev_eBlt, ↓ev_eCons, ↓ev_eLst, ↓ev_eComp, ↓ev_iD, ↓ev_eV0]
  have go : ∀ QL : List D → Sto → Prop, Ev (compGo (gN 1) eYes (eTup (eCons (eBin oIx (eVb 1) (eC (.int 0))) (eCons (eBin oIx (eVb 1) (eC (.int 1))) eNil))) [some (.sh (dS o i s)), none] (s.map (dIn i)) S) QL = QL (s.map dPair) S := fun QL => compGo_all (dIn i) dPair s fun p hp => by
    cases i
    · simp [dIn]
    · simp [dIn, ↓ev_ixL (show atI [D.int p.1, D.int p.2] 0 = some (.int p.1) from rfl), ↓ev_ixL (show atI [D.int p.1, D.int p.2] 1 = some (.int p.2) from rfl)]
  cases o
  · simp only [dS, ↓wq_t, ↓ww_0, ↓ww_s, ↓ws_0, ↓ws_s]
    have := go
    simp only [dS] at this
    simp only [↓this]
    simp [dStair]
  · simp only [dS, ↓wq_l, ↓ww_0, ↓ww_s, ↓ws_0, ↓ws_s]
    have := go
    simp only [dS] at this
    simp only [↓this]
    simp [dStair]))
theorem wq_dS (s : List P2) (k : List D → Prop) : withSeq (dStair s) k = k (s.map dPair) := rfl
theorem num_k {s : List P2} {L : Int} (hl : s.length ≤ 1000) : Ev (φ__law_number [dStair s, .int L] S) Q = Q (dOpt (numIn s L)) S := Ev.of (Ev.eq (by
  rw [e__law_number]
  unfold b__law_number
  simp only [↓es_ret, ↓ev_eBin, ↓ev_eLst, ↓ev_eCatN, ↓ev_eDsp, ↓ev_eCons, ↓ev_eC, ↓ev_eNil, ↓ev_eComp, ↓ev_iD, ↓ev_eV0, ↓wq_dS, ↓ww_0, ↓ww_s, ↓ws_0, ↓ws_s]
  refine ⟨by show 1 ≤ 1000; decide, ?_⟩
  rw [compGo_pure dPair (fun p => decide (p.1 ≤ L)) (fun p => .int p.2) s fun p hp => by simp]
  have hlen : (s.filter fun p => decide (p.1 ≤ L)).length ≤ s.length := List.length_filter_le _ _
  unfold numIn
  generalize s.filter (fun p => decide (p.1 ≤ L)) = t at *
  refine ⟨by simp; omega, ?_⟩
  simp only [↓ev_eNegI]
  rcases snoc_of t with h | ⟨f, q, h⟩
  · rw [h]
    have e := ev_lastA (xs := []) (x := D.non) (S := S) (Q := fun b S' => b = dOpt (Option.map Prod.snd (List.getLast? ([] : List P2))) ∧ S' = S)
    exact e.mpr ⟨rfl, rfl⟩
  · rw [h]
    simp only [List.map_append, List.map_cons, List.map_nil, List.getLast?_concat]
    rw [← List.append_assoc]
    simp [opt_int]))
end
end DL

namespace DL
open PySem PySem.Spec PyProof.Rows L2
/-! KE2: entries and what they are worth, evaluated. -/
/-- an entry's word and stair -/
structure Ent (w : Str) (s : List P2) : Prop where
  wd : w = "won" ∨ w = "lost" ∨ w = "drawn"
  st : Stair 11 s
  sl : s.length ≤ 100
  dr : s = [] ↔ w = "drawn"
def dMk (o : Bool) (xs : List D) : D := if o then .lst xs else .tup xs
/-- an entry as data: lists, tuples -/
def dEnt (o o' i : Bool) (w : Str) (s : List P2) : D := dMk o [.str w, dS o' i s]
/-- what an entry is worth -/
def wv (w : Str) (s : List P2) (L c : Int) : Str := match numIn s L with
  | some n => if n ≤ L - c then w else "drawn"
  | none => "drawn"
section
variable {S R : Sto} {Q : D → Sto → Prop} {n : Int}
theorem pd_dEnt (o o' i : Bool) (w : Str) (s : List P2) : pd (dEnt o o' i w s) = true := by
  have h : pdAll [.str w, dS o' i s] = true := by
    show (pd (.str w) && (pd (dS o' i s) && true)) = true
    rw [pd_dS]
    rfl
  cases o <;> exact h
theorem ix_dMk0 (o : Bool) (x y : D) : Ev (oIx (dMk o [x, y]) (.int 0) S) Q = Q x S := by cases o <;> exact Ev.of rfl
theorem ix_dMk1 (o : Bool) (x y : D) : Ev (oIx (dMk o [x, y]) (.int 1) S) Q = Q y S := by cases o <;> exact Ev.of rfl
theorem len_dMk (o : Bool) (xs : List D) : Ev (bLen [dMk o xs] S) Q = Q (.int xs.length) S := by
  cases o
  · show Ev (bLen [.tup xs] S) Q = _
    simp
  · show Ev (bLen [.lst xs] S) Q = _
    simp
theorem len_dS (o i : Bool) (s : List P2) : Ev (bLen [dS o i s] S) Q = Q (.int s.length) S := by
  cases o
  · show Ev (bLen [.tup (s.map (dIn i))] S) Q = _
    simp
  · show Ev (bLen [.lst (s.map (dIn i))] S) Q = _
    simp
theorem seq_dMk (o : Bool) (xs : List D) : (seqD (dMk o xs)).isSome = true := by cases o <;> rfl
theorem eq_bl (a b : Bool) : Ev (oEq (.bl a) (.bl b) S) Q = Q (.bl (a == b)) S := by cases a <;> cases b <;> exact Ev.of rfl
theorem wy_str (w : Str) (k : Bool → Prop) : withTy "str" (.str w) k = k true := rfl
def WORDS3 : D := .tup (List.map D.str (["drawn", "won", "lost"] : List Str))
theorem nin_word {w : Str} (h : w = "won" ∨ w = "lost" ∨ w = "drawn") : Ev (oNotInF (.str w) (.tup (List.map D.str (["drawn", "won", "lost"] : List Str))) S) Q = Q (.bl false) S := Ev.of (by
  rcases h with rfl | rfl | rfl
  · show Res.ok (D.bl (!inV (.str "won") [.str "drawn", .str "won", .str "lost"])) S = _
    rw [show (!inV (.str "won") [.str "drawn", .str "won", .str "lost"]) = false by decide +kernel]
  · show Res.ok (D.bl (!inV (.str "lost") [.str "drawn", .str "won", .str "lost"])) S = _
    rw [show (!inV (.str "lost") [.str "drawn", .str "won", .str "lost"]) = false by decide +kernel]
  · show Res.ok (D.bl (!inV (.str "drawn") [.str "drawn", .str "won", .str "lost"])) S = _
    rw [show (!inV (.str "drawn") [.str "drawn", .str "won", .str "lost"]) = false by decide +kernel])
theorem eq_strs (x y : Str) : Ev (oEq (.str x) (.str y) S) Q = Q (.bl (decide (x = y))) S := by
  rw [ev_oEq rfl rfl]
  have : eqD (.str x) (.str y) = decide (x = y) := by
    show PyData.eqv (.str x) (.str y) = _
    simp only [PyData.eqv]
    by_cases h : x = y
    · simp [h]
    · simp [h]
  rw [this]
theorem ne_strs (x y : Str) : Ev (oNe (.str x) (.str y) S) Q = Q (.bl (!decide (x = y))) S := by
  rw [ev_oNe rfl rfl]
  have : eqD (.str x) (.str y) = decide (x = y) := by
    show PyData.eqv (.str x) (.str y) = _
    simp only [PyData.eqv]
    by_cases h : x = y
    · simp [h]
    · simp [h]
  rw [this]
theorem isEntry_ev {w : Str} {s : List P2} (h : Ent w s) (o o' i : Bool) : Ev (φ_is_entry [dEnt o o' i w s] S) Q = Q (.bl true) S := Ev.of (Ev.eq (by
  rw [e_is_entry]
  unfold b_is_entry
  have hpd := pd_dEnt o o' i w s
  have hsq : (seqD (dEnt o o' i w s)).isSome = true := seq_dMk o _
  have i0 : ∀ {Q : D → Sto → Prop}, Ev (oIx (dEnt o o' i w s) (.int 0) S) Q = Q (.str w) S := fun {Q} => ix_dMk0 o _ _
  have i1 : ∀ {Q : D → Sto → Prop}, Ev (oIx (dEnt o o' i w s) (.int 1) S) Q = Q (dS o' i s) S := fun {Q} => ix_dMk1 o _ _
  have hl : ∀ {Q : D → Sto → Prop}, Ev (bLen [dEnt o o' i w s] S) Q = Q (.int 2) S := fun {Q} => len_dMk o _
  have hst : ∀ {Q : D → Sto → Prop}, Ev (φ_is_stair [dS o' i s] S) Q = Q (.bl true) S := fun {Q} => by
    rw [stair_any (pd_dS o' i s), so_dS h.st (by omega)]
  have hn : ∀ {Q : D → Sto → Prop}, Ev (oNotInF (.str w) (.tup (List.map D.str (["drawn", "won", "lost"] : List Str))) S) Q = Q (.bl false) S := fun {Q} => nin_word h.wd
  generalize dEnt o o' i w s = d at hpd hsq i0 i1 hl
  simp only [↓es_seq, ↓es_if, ↓ev_eOrT, ↓ev_eNotT, ↓ev_eTru, ↓ev_eCall0, ↓ev_eCons, ↓ev_eV0, ↓ev_eNil, ↓listed_any hpd, hsq, ↓wt_b, Bool.not_true, Bool.false_eq_true, if_false, ↓ev_eTst, ↓ev_eBin, ↓ev_eBlt, ↓ev_eVb0, ↓hl, ↓ev_eC, ↓neI2, decide_true, ↓ev_eIsi, ↓i0, ↓wy_str, ↓hn, ↓es_nil, ↓es_ret, ↓ev_eAnd, ↓i1, ↓hst, if_true, ↓len_dS, ↓eqI2, ↓eq_strs, ↓eq_bl]
  have e : (decide ((s.length : Int) = 0) == decide (w = "drawn")) = true := by
    have h1 : ((s.length : Int) = 0) ↔ w = "drawn" := by
      rw [← h.dr]
      constructor
      · intro z; exact List.length_eq_zero_iff.mp (by omega)
      · intro z; rw [z]; rfl
    by_cases hw : w = "drawn"
    · rw [decide_eq_true (h1.mpr hw), decide_eq_true hw]; rfl
    · rw [decide_eq_false (fun z => hw (h1.mp z)), decide_eq_false hw]; rfl
  rw [e]
  first | exact ⟨rfl, rfl⟩ | exact ⟨rfl, trivial⟩ | trivial))
theorem fixedE_ev (w : Str) (s : List P2) (o o' i : Bool) : Ev (φ_fixed_entry [dEnt o o' i w s] S) Q = Q (.tup [.str w, dStair s]) S := Ev.of (Ev.eq (by
  rw [e_fixed_entry]
  unfold b_fixed_entry
  have i0 : ∀ {Q : D → Sto → Prop}, Ev (oIx (dEnt o o' i w s) (.int 0) S) Q = Q (.str w) S := fun {Q} => ix_dMk0 o _ _
  have i1 : ∀ {Q : D → Sto → Prop}, Ev (oIx (dEnt o o' i w s) (.int 1) S) Q = Q (dS o' i s) S := fun {Q} => ix_dMk1 o _ _
  generalize dEnt o o' i w s = d at i0 i1
  simp only [↓es_ret, ↓ev_eTup, ↓ev_eCons, ↓ev_eBin, ↓ev_eVb0, ↓ev_eC, ↓i0, ↓ev_eCall0, ↓i1, ↓ev_eNil, ↓fixed_dS]
  exact ⟨by show 2 ≤ 1000; decide, by first | exact ⟨rfl, rfl⟩ | exact ⟨rfl, trivial⟩ | exact ⟨trivial, trivial⟩ | trivial⟩))
theorem needE_ev {w : Str} {s : List P2} (h : Ent w s) (o o' i : Bool) : Ev (φ_need_entry [dEnt o o' i w s] S) Q = Q (.tup [.str w, dStair s]) S := Ev.of (Ev.eq (by
  rw [e_need_entry]
  unfold b_need_entry
  have h1 : ∀ {Q : D → Sto → Prop}, Ev (φ_is_entry [dEnt o o' i w s] S) Q = Q (.bl true) S := fun {Q} => isEntry_ev h o o' i
  have h2 : ∀ {Q : D → Sto → Prop}, Ev (φ_fixed_entry [dEnt o o' i w s] S) Q = Q (.tup [.str w, dStair s]) S := fun {Q} => fixedE_ev w s o o' i
  generalize dEnt o o' i w s = d at h1 h2
  simp [↓h1, ↓h2]))
theorem needLim_ev {L : Int} (h1 : 1 ≤ L) (h2 : L ≤ 1000000) : Ev (φ_need_limit [.int L] S) Q = Q .non S := Ev.of (Ev.eq (by
  rw [e_need_limit]
  unfold b_need_limit
  have e : betw 1 1000000 (.int L) = true := by
    show (decide (1 ≤ L) && decide (L ≤ 1000000)) = true
    simp [h1, h2]
  simp [↓betw_any (show pd (.int L) = true from rfl), e]))
theorem needCnt_ev {c L : Int} (h1 : 0 ≤ c) (h2 : c ≤ L) : Ev (φ_need_count [.int c, .int L] S) Q = Q .non S := Ev.of (Ev.eq (by
  rw [e_need_count]
  unfold b_need_count
  have e : betw 0 L (.int c) = true := by
    show (decide (0 ≤ c) && decide (c ≤ L)) = true
    simp [h1, h2]
  simp [↓betw_any (show pd (.int c) = true from rfl), e]))
theorem worthIn_ev (w : Str) (s : List P2) (L c : Int) : Ev (φ_worth_in [.tup [.str w, dStair s], .int L, .int c] S) Q = Q (.str (wv w s L c)) S := Ev.of (Ev.eq (by
  rw [e_worth_in]
  unfold b_worth_in wv
  simp only [↓es_seq, ↓es_set, ↓ev_eCall0, ↓ev_eCons, ↓ev_eBin, ↓ev_eVb0, ↓ev_eVbs, ↓ev_eC, ↓ev_pair1, ↓ev_eV0, ↓ev_eVs, ↓ev_eNil, ↓numIn_ev, ↓ws_0, ↓ws_s, ↓es_ret, ↓ev_eIf, ↓ev_eAndT, ↓ev_eTst, ↓ev_oIsNot]
  cases numIn s L with
  | none => simp [opt_non]
  | some k =>
    by_cases hk : k ≤ L - c
    · simp [opt_int, ev_isNonI, hk]
    · simp [opt_int, ev_isNonI, hk]))
theorem worth_ev {w : Str} {s : List P2} (h : Ent w s) (o o' i : Bool) {L c : Int} (h1 : 1 ≤ L) (h2 : L ≤ 1000000) (h3 : 0 ≤ c) (h4 : c ≤ L) : Ev (φ_worth [dEnt o o' i w s, .int L, .int c] S) Q = Q (.str (wv w s L c)) S := Ev.of (Ev.eq (by
  rw [e_worth]
  unfold b_worth
  have g1 : ∀ {Q : D → Sto → Prop}, Ev (φ_need_entry [dEnt o o' i w s] S) Q = Q (.tup [.str w, dStair s]) S := fun {Q} => needE_ev h o o' i
  generalize dEnt o o' i w s = d at g1
  simp [↓g1, ↓needLim_ev h1 h2, ↓needCnt_ev h3 h4, ↓worthIn_ev]))
theorem ownWorth_ev {w : Str} {s : List P2} (h : Ent w s) (L c : Int) : Ev (φ__law_own_worth [.tup [.str w, dStair s], .int L, .int c] S) Q = Q (.str (wv w s L c)) S := Ev.of (Ev.eq (by
  rw [e__law_own_worth]
  unfold b__law_own_worth wv
  simp only [↓es_seq, ↓es_set, ↓ev_eCall0, ↓ev_eCons, ↓ev_eBin, ↓ev_eVb0, ↓ev_eVbs, ↓ev_eC, ↓ev_pair1, ↓ev_eV0, ↓ev_eVs, ↓ev_eNil, ↓num_k (show s.length ≤ 1000 by have := h.sl; omega), ↓ws_0, ↓ws_s, ↓es_ret, ↓ev_eIf, ↓ev_eOrT, ↓ev_eTst, ↓ev_oIs]
  cases numIn s L with
  | none => simp [opt_non]
  | some k =>
    by_cases hk : k ≤ L - c
    · have hk' : ¬ L < k + c := by omega
      simp [opt_int, ev_isNonI, hk, hk']
    · have hk' : L < k + c := by omega
      simp [opt_int, ev_isNonI, hk, hk']))
/-! ### refusals -/
theorem need_bad {d : D} (h : φ_is_entry [d] S = .ok (.bl false) S) : φ_need_entry [d] S = .ex ⟨"BadEntry", ["value"], [d]⟩ S := by
  have hE : ∀ {Q : D → Sto → Prop}, Ev (φ_is_entry [d] S) Q = Q (.bl false) S := fun {Q} => Ev.of h
  have e1 : eNotT (eTru (eCall0 φ_is_entry (eCons (eV 0) eNil))) [some (.sh d)] S = .ok true S := Ev.eq (by
    simp only [↓ev_eNotT, ↓ev_eTru, ↓ev_eCall0, ↓ev_eCons, ↓ev_eV0, ↓ev_eNil, ↓hE, ↓wt_b]
    first | exact ⟨rfl, rfl⟩ | exact ⟨rfl, trivial⟩ | trivial)
  have e2 : sIf (eNotT (eTru (eCall0 φ_is_entry (eCons (eV 0) eNil)))) (sRaise "BadEntry" ["value"] (eCons (eV 0) eNil)) sNil [some (.sh d)] S = .ok (.rs ⟨"BadEntry", ["value"], [d]⟩ [some (.sh d)]) S := by
    show Res.bindS _ (eNotT _ _ S) _ = _
    rw [e1]
    rfl
  show (match b_need_entry [some (.sh d)] S with
    | .ok (.rt d) S' => Res.ok d S'
    | .ok (.nx _) S' => .ok .non S'
    | .ok (.rs x _) S' => .ex x S'
    | _ => .stuck) = _
  have e3 : b_need_entry [some (.sh d)] S = .ok (.rs ⟨"BadEntry", ["value"], [d]⟩ [some (.sh d)]) S := by
    unfold b_need_entry sSeq
    rw [e2]
    rfl
  rw [e3]
theorem set_ex {i : Nat} {f : EE} {t : SS} {env : Env} {x : Exn} {S1 : Sto} (h : f env S = .ex x S1) : sSeq (sSet i f) t env S = .ok (.rs x env) S1 := by
  have e : sSet i f env S = .ok (.rs x env) S1 := by
    unfold sSet
    rw [h]
    rfl
  unfold sSeq
  rw [e]
  rfl
theorem drop_ex {f : EE} {t : SS} {env : Env} {x : Exn} {S1 : Sto} (h : f env S = .ex x S1) : sSeq (sDrop f) t env S = .ok (.rs x env) S1 := by
  have e : sDrop f env S = .ok (.rs x env) S1 := by
    unfold sDrop
    rw [h]
    rfl
  unfold sSeq
  rw [e]
  rfl
theorem set_ok {i : Nat} {f : EE} {t : SS} {env : Env} {d : D} {S1 : Sto} (h : f env S = .ok d S1) : sSeq (sSet i f) t env S = t (env.set i (some (.sh d))) S1 := by
  have e : sSet i f env S = .ok (.nx (env.set i (some (.sh d)))) S1 := by
    unfold sSet
    rw [h]
    rfl
  unfold sSeq
  rw [e]
  rfl
theorem drop_ok {f : EE} {t : SS} {env : Env} {d : D} {S1 : Sto} (h : f env S = .ok d S1) : sSeq (sDrop f) t env S = t env S1 := by
  have e : sDrop f env S = .ok (.nx env) S1 := by
    unfold sDrop
    rw [h]
    rfl
  unfold sSeq
  rw [e]
  rfl
theorem runD_rs {N : Nat} {b : SS} {ds : List D} {x : Exn} {e : Env} {S1 : Sto} (h : b (startE N ds) S = .ok (.rs x e) S1) : runD N b ds S = .ex x S1 := by
  unfold runD
  rw [h]
theorem worth_bad {d x y : D} (h : φ_is_entry [d] S = .ok (.bl false) S) : φ_worth [d, x, y] S = .ex ⟨"BadEntry", ["value"], [d]⟩ S := by
  refine runD_rs (e := [some (.sh d), some (.sh x), some (.sh y), none]) ?_
  unfold b_worth
  exact set_ex (show eCall φ_need_entry (eCons (eV 0) eNil) _ S = _ from need_bad h)
theorem worth_lim {w : Str} {s : List P2} (h : Ent w s) {x y : D} (hx : φ_need_limit [x] S = .ex ⟨"BadNumber", ["value"], [x]⟩ S) : φ_worth [dEnt false false false w s, x, y] S = .ex ⟨"BadNumber", ["value"], [x]⟩ S := by
  have e1 : φ_need_entry [dEnt false false false w s] S = .ok (.tup [.str w, dStair s]) S := Ev.eq (by
    rw [needE_ev h false false false]
    exact ⟨rfl, rfl⟩)
  refine runD_rs (e := [some (.sh (dEnt false false false w s)), some (.sh x), some (.sh y), some (.sh (.tup [.str w, dStair s]))]) ?_
  unfold b_worth
  refine (set_ok (S := S) (S1 := S) (env := [some (.sh (dEnt false false false w s)), some (.sh x), some (.sh y), none]) (d := .tup [.str w, dStair s]) (show eCall φ_need_entry (eCons (eV 0) eNil) [some (.sh (dEnt false false false w s)), some (.sh x), some (.sh y), none] S = .ok (.tup [.str w, dStair s]) S from e1)).trans ?_
  exact drop_ex (S := S) (S1 := S) (env := [some (.sh (dEnt false false false w s)), some (.sh x), some (.sh y), some (.sh (.tup [.str w, dStair s]))]) (x := ⟨"BadNumber", ["value"], [x]⟩) (show eCall φ_need_limit (eCons (eV 1) eNil) [some (.sh (dEnt false false false w s)), some (.sh x), some (.sh y), some (.sh (.tup [.str w, dStair s]))] S = _ from hx)
theorem worth_cnt {w : Str} {s : List P2} (h : Ent w s) {L : Int} {y : D} (h1 : 1 ≤ L) (h2 : L ≤ 1000000) (hy : φ_need_count [y, .int L] S = .ex ⟨"BadNumber", ["value"], [y]⟩ S) : φ_worth [dEnt false false false w s, .int L, y] S = .ex ⟨"BadNumber", ["value"], [y]⟩ S := by
  have e1 : φ_need_entry [dEnt false false false w s] S = .ok (.tup [.str w, dStair s]) S := Ev.eq (by
    rw [needE_ev h false false false]
    exact ⟨rfl, rfl⟩)
  have e2 : φ_need_limit [.int L] S = .ok .non S := Ev.eq (by
    rw [needLim_ev h1 h2]
    exact ⟨rfl, rfl⟩)
  refine runD_rs (e := [some (.sh (dEnt false false false w s)), some (.sh (.int L)), some (.sh y), some (.sh (.tup [.str w, dStair s]))]) ?_
  unfold b_worth
  refine (set_ok (S := S) (S1 := S) (env := [some (.sh (dEnt false false false w s)), some (.sh (.int L)), some (.sh y), none]) (d := .tup [.str w, dStair s]) (show eCall φ_need_entry (eCons (eV 0) eNil) [some (.sh (dEnt false false false w s)), some (.sh (.int L)), some (.sh y), none] S = .ok (.tup [.str w, dStair s]) S from e1)).trans ?_
  refine (drop_ok (S := S) (S1 := S) (env := [some (.sh (dEnt false false false w s)), some (.sh (.int L)), some (.sh y), some (.sh (.tup [.str w, dStair s]))]) (d := .non) (show eCall φ_need_limit (eCons (eV 1) eNil) [some (.sh (dEnt false false false w s)), some (.sh (.int L)), some (.sh y), some (.sh (.tup [.str w, dStair s]))] S = _ from e2)).trans ?_
  exact drop_ex (S := S) (S1 := S) (env := [some (.sh (dEnt false false false w s)), some (.sh (.int L)), some (.sh y), some (.sh (.tup [.str w, dStair s]))]) (x := ⟨"BadNumber", ["value"], [y]⟩) (show eCall φ_need_count (eCons (eV 2) (eCons (eV 1) eNil)) [some (.sh (dEnt false false false w s)), some (.sh (.int L)), some (.sh y), some (.sh (.tup [.str w, dStair s]))] S = _ from hy)
end
end DL

namespace DL
open PySem PySem.Spec PyProof.Rows L2
/-! KE3: what can be shown; bent entries. -/
def k15a : SS := (sSet 3 (eCall0 φ__law_pick (eCons (eV 1) (eCons (eLst (eDsp (eCons (eC (.str "won")) (eCons (eC (.str "lost")) (eCons (eC (.str "drawn")) eNil))))) eNil))))
def k15b : SS := (sSet 4 (eIf (eTst (eBin oEq (eVb 3) (eC (.str "drawn")))) (eTup eNil) (eCall0 φ__law_some_stair (eCons (eV 1) (eCons (eC (.int 8)) eNil)))))
def k15c : SS := (sSet 5 (eTup (eCons (eV 3) (eCons (eV 4) eNil))))
def k15d : SS := (sIf (eOrT (eTst (eBin oIsNotB (eCall0 φ_is_entry (eCons (eV 5) eNil)) (eC (.bl true)))) (eTst (eBin oIsNotB (eCallK φ_is_entry 0 1 [0] eNil (eCons (eLst (eDsp (eCons (eV 3) (eCons (eLst (eComp (iD (eV 4)) (gN 6) eYes (eLst (eBltN bList (eCons (eVb 6) eNil))) [6])) eNil)))) eNil)) (eC (.bl true))))) (sRet (eC (.bl false))) sNil)
def k15e : SS := (sSet 7 (eCall0 φ__law_pick (eCons (eV 1) (eCons (eLst (eDsp (eCons (eTup (eCons (eV 3) (eCons (eC .non) eNil))) (eCons (eTup (eCons (eV 3) (eCons (eTup (eCons (eTup (eCons (eC (.int 1)) (eCons (eC (.int 2)) eNil))) eNil)) eNil))) (eCons (eTup (eCons (eV 3) eNil)) (eCons (eTup (eCons (eV 3) (eCons (eV 4) (eCons (eC (.int 0)) eNil)))) (eCons (eTup (eCons (eUp (eV 3)) (eCons (eV 4) eNil))) (eCons (eTup (eCons (eV 4) (eCons (eV 3) eNil))) (eCons (eC .non) (eCons (eC (.int 5)) (eCons (eV 3) (eCons eDct0 (eCons (eTup (eCons (eC .non) (eCons (eV 4) eNil))) (eCons (eTup (eCons (eLst (eDsp (eCons (eV 3) eNil))) (eCons (eV 4) eNil))) eNil)))))))))))))) eNil))))
def k15f : SS := (sSet 7 (eCall0 φ__law_pick (eCons (eV 1) (eCons (eLst (eDsp (eCons (eV 7) (eCons (eTup (eCons (eV 3) (eCons (eIf (eTst (eBin oEq (eVb 3) (eC (.str "drawn")))) (eTup (eCons (eTup (eCons (eC (.int 1)) (eCons (eC (.int 0)) eNil))) eNil)) (eTup eNil)) eNil))) (eCons (eTup (eCons (eC (.str "win")) (eCons (eV 4) eNil))) (eCons (eTup (eCons (eV 3) (eCons (eTup (eCons (eC .non) eNil)) eNil))) (eCons (eTup (eCons (eV 3) (eCons (eTup (eCons (eTup (eCons (eC (.bl true)) (eCons (eC (.int 0)) eNil))) eNil)) eNil))) (eCons (eTup (eCons (eV 3) (eCons (eTup (eCons (eTup (eCons (eC (.int 0)) (eCons (eC (.int 0)) eNil))) eNil)) eNil))) eNil)))))))) eNil))))
def k15g : SS := (sIf (eTst (eBin oIsNotB (eCall0 φ_is_entry (eCons (eV 7) eNil)) (eC (.bl false)))) (sRet (eC (.bl false))) sNil)
def k15h : SS := (sFor (iRg1 (eC (.int 6))) (gN 8) (sSeq (sSet 9 (eBin oAdd (eC (.int 1)) (eCall0 φ__law_draw (eCons (eV 1) (eCons (eC (.int 14)) eNil)))))
    (sSeq (sSet 10 (eCall0 φ__law_draw (eCons (eV 1) (eCons (eBin oAdd (eVb 9) (eC (.int 1))) eNil))))
    (sIf (eOrT (eTst (eBin oNe (eCall φ_worth (eCons (eV 5) (eCons (eV 9) (eCons (eV 10) eNil)))) (eCall0 φ__law_own_worth (eCons (eV 5) (eCons (eV 9) (eCons (eV 10) eNil)))))) (eTst (eBin oNe (eCallK φ_worth 0 3 [2, 1, 0] eNil (eCons (eV 10) (eCons (eV 9) (eCons (eLst (eBltN bList (eCons (eVb 5) eNil))) eNil)))) (eCall φ_worth (eCons (eV 5) (eCons (eV 9) (eCons (eV 10) eNil))))))) (sRet (eC (.bl false))) sNil))))
def k15i : SS := (sIf (eOrT (eTst (eBin oNe (eCall φ_worth (eApp (eCons (eV 5) (eCons (eC (.int 9)) eNil)) [.int 0])) (eCall0 φ__law_own_worth (eCons (eV 5) (eCons (eC (.int 9)) (eCons (eC (.int 0)) eNil)))))) (eTst (eBin oNe (eCall φ_worth (eCons (eV 5) (eCons (eBin oPow (eC (.int 10)) (eC (.int 6))) (eCons (eBin oPow (eC (.int 10)) (eC (.int 6))) eNil)))) (eIf (eOrT (eTst (eBin oEq (eVb 4) (eTup eNil))) (eTst (eBin oGt (eBin oIx (eBin oIx (eVb 4) (eNeg (eC (.int 1)))) (eC (.int 1))) (eC (.int 0))))) (eC (.str "drawn")) (eV 3))))) (sRet (eC (.bl false))) sNil)
def k15j : SS := (sAsgT (gTp 2 (gsCons (gN 11) (gsCons (gN 12) gsNil))) (eTup (eCons (eCall0 φ__law_pick (eCons (eV 1) (eCons (eLst (eDsp (eCons (eC .non) (eCons (eC (.int 0)) (eCons (eBin oAdd (eBin oPow (eC (.int 10)) (eC (.int 6))) (eC (.int 1))) (eCons (eC (.bl true)) (eCons (eC (.str "1")) (eCons (eNeg (eC (.int 1))) eNil)))))))) eNil))) (eCons (eCall0 φ__law_pick (eCons (eV 1) (eCons (eLst (eDsp (eCons (eC .non) (eCons (eNeg (eC (.int 1))) (eCons (eC (.int 6)) (eCons (eC (.bl true)) (eCons (eC (.str "0")) eNil))))))) eNil))) eNil))))
def k15k : SS := (sSet 13 (eLst (eDsp (eCons (eHeard ψ__law_heard (eCall φ_worth (eCons (eV 7) (eCons (eV 11) (eCons (eV 12) eNil))))) (eCons (eHeard ψ__law_heard (eCall φ_worth (eCons (eV 5) (eCons (eV 11) (eCons (eV 12) eNil))))) (eCons (eHeard ψ__law_heard (eCall φ_worth (eCons (eV 5) (eCons (eC (.int 5)) (eCons (eV 12) eNil))))) eNil))))))
def k15l : SS := (sIf (eTst (eBin oNe (eReprD (eV 13)) (eReprD (eLst (eDsp (eCons (eTup (eCons (eC (.str "entry")) (eCons (eV 7) eNil))) (eCons (eTup (eCons (eC (.str "number")) (eCons (eV 11) eNil))) (eCons (eTup (eCons (eC (.str "number")) (eCons (eV 12) eNil))) eNil)))))))) (sRet (eC (.bl false))) sNil)
def k15Body : SS := (sSeq k15a (sSeq k15b (sSeq k15c (sSeq k15d (sSeq k15e (sSeq k15f (sSeq k15g (sSeq k15h (sSeq k15i (sSeq k15j (sSeq k15k k15l)))))))))))
def k15End : SS := (sRet (eAnd (eBin oIsB (eCall0 φ_is_entry (eCons (eTup (eCons (eC (.str "won")) (eCons (eTup (eCons (eTup (eCons (eC (.int 1)) (eCons (eC (.int 0)) eNil))) eNil)) eNil))) eNil)) (eC (.bl true))) (eAnd (eBin oEq (eCall φ_worth (eCons (eTup (eCons (eC (.str "lost")) (eCons (eTup (eCons (eTup (eCons (eC (.int 1)) (eCons (eC (.int 0)) eNil))) eNil)) eNil))) (eCons (eC (.int 4)) (eCons (eC (.int 4)) eNil)))) (eC (.str "lost"))) (eBin oEq (eCall φ_worth (eCons (eTup (eCons (eC (.str "lost")) (eCons (eTup (eCons (eTup (eCons (eC (.int 1)) (eCons (eC (.int 1)) eNil))) eNil)) eNil))) (eCons (eC (.int 4)) (eCons (eC (.int 4)) eNil)))) (eC (.str "drawn"))))))
theorem b_law_eq : b_law = (sSeq (sSet 1 (eCall0 φ__law_pen (eCons (eV 0) eNil))) (sSeq (sFor (iRg1 (eC (.int 16))) (gN 2) k15Body) k15End)) := rfl
theorem log_lt {i : Int} (h : i.natAbs < 10 ^ 12) : i.natAbs.log2 < 40 := by
  by_cases z : i.natAbs = 0
  · rw [z]; decide
  · rw [Nat.log2_lt z]
    exact Nat.lt_trans h (by decide)
theorem wt_int {i : Int} (h : i.natAbs < 10 ^ 12) : PyData.weight (.int i) ≤ 40 := by
  have := log_lt h
  show (if i == 0 then 0 else i.natAbs.log2 + 1) ≤ 40
  split <;> omega
/-- it can be shown, it is short -/
structure Sh (d : D) (w n : Nat) : Prop where
  pl : plD d = true
  sh : (pyD d).showable = true
  lv : (pyD d).leavesShort 13 = true
  wt : (pyD d).weight ≤ w
  dp : (pyD d).depth ≤ n
theorem Sh.mono {d : D} {w n w' n' : Nat} (h : Sh d w n) (h1 : w ≤ w') (h2 : n ≤ n') : Sh d w' n' := ⟨h.pl, h.sh, h.lv, Nat.le_trans h.wt h1, Nat.le_trans h.dp h2⟩
theorem sh_all {w n : Nat} : ∀ {xs : List D}, (∀ x ∈ xs, Sh x w n) → plDs xs = true ∧ PyData.showableAll (pyDs xs) = true ∧ PyData.leavesShortAll 13 (pyDs xs) = true ∧ PyData.weightAll (pyDs xs) ≤ xs.length * (w + 1) ∧ PyData.depthAll (pyDs xs) ≤ n
  | [], _ => ⟨rfl, rfl, rfl, Nat.zero_le _, Nat.zero_le _⟩
  | x :: xs, h => by
    have h1 := h x (by simp)
    obtain ⟨a1, a2, a3, a4, a5⟩ := sh_all (xs := xs) fun y hy => h y (by simp [hy])
    refine ⟨?_, ?_, ?_, ?_, ?_⟩
    · show (plD x && plDs xs) = true
      rw [h1.pl, a1]; rfl
    · show (PyData.showable (pyD x) && PyData.showableAll (pyDs xs)) = true
      rw [h1.sh, a2]; rfl
    · show (PyData.leavesShort 13 (pyD x) && PyData.leavesShortAll 13 (pyDs xs)) = true
      rw [h1.lv, a3]; rfl
    · show PyData.weight (pyD x) + 1 + PyData.weightAll (pyDs xs) ≤ _
      have := h1.wt
      rw [List.length_cons, Nat.add_mul, Nat.one_mul]
      omega
    · show max (PyData.depth (pyD x)) (PyData.depthAll (pyDs xs)) ≤ n
      have := h1.dp
      omega
theorem sh_tup {w n k : Nat} {xs : List D} (h : ∀ x ∈ xs, Sh x w n) (hk : xs.length ≤ k) : Sh (.tup xs) (k * (w + 1)) (n + 1) := by
  obtain ⟨a1, a2, a3, a4, a5⟩ := sh_all h
  have := Nat.mul_le_mul_right (w + 1) hk
  exact ⟨a1, a2, a3, Nat.le_trans a4 this, by show PyData.depthAll (pyDs xs) + 1 ≤ n + 1; omega⟩
theorem sh_lst {w n k : Nat} {xs : List D} (h : ∀ x ∈ xs, Sh x w n) (hk : xs.length ≤ k) : Sh (.lst xs) (k * (w + 1)) (n + 1) := by
  obtain ⟨a1, a2, a3, a4, a5⟩ := sh_all h
  have := Nat.mul_le_mul_right (w + 1) hk
  exact ⟨a1, a2, a3, Nat.le_trans a4 this, by show PyData.depthAll (pyDs xs) + 1 ≤ n + 1; omega⟩
theorem sh_int {i : Int} (h : i.natAbs < 10 ^ 12) : Sh (.int i) 40 0 where
  pl := rfl
  sh := by
    show decide (i.natAbs.log2 < 1920) = true
    rw [decide_eq_true_eq]
    exact Nat.lt_trans (log_lt h) (by decide)
  lv := by
    show decide ((PyData.shown (.int i)).length ≤ 13) = true
    rw [decide_eq_true_eq]
    exact PyData.shown_int_le h
  wt := wt_int h
  dp := Nat.le_refl _
theorem sh_non : Sh .non 0 0 := ⟨rfl, rfl, rfl, Nat.le_refl _, Nat.le_refl _⟩
theorem sh_bl (b : Bool) : Sh (.bl b) 0 0 := ⟨rfl, rfl, rfl, Nat.le_refl _, Nat.le_refl _⟩
theorem sh_dct : Sh (.dct [] []) 10 1 := ⟨rfl, rfl, rfl, Nat.zero_le _, by decide +kernel⟩
theorem sh_str {x : Str} (h1 : (x.cps.toList.all fun c => decide (c < 16 ^ 8)) = true) (h2 : x.cps.size ≤ 40) : Sh (.str x) 40 0 := ⟨rfl, rfl, h1, h2, Nat.le_refl _⟩
theorem sh_pair {p : P2} (h1 : p.1.natAbs < 10 ^ 12) (h2 : p.2.natAbs < 10 ^ 12) : Sh (dPair p) 82 1 := sh_tup (k := 2) (w := 40) (n := 0) (fun x hx => by
  simp only [List.mem_cons, List.not_mem_nil, or_false] at hx
  rcases hx with rfl | rfl
  · exact sh_int h1
  · exact sh_int h2) (Nat.le_refl _)
theorem sh_stair {b : Int} {s : List P2} (hs : Stair b s) (hb : b ≤ 1000000) (hl : s.length ≤ 100) : Sh (dStair s) 8300 2 := sh_tup (k := 100) (w := 82) (n := 1) (fun x hx => by
  obtain ⟨p, hp, rfl⟩ := List.mem_map.mp hx
  have := hs.at_ p hp
  exact sh_pair (by omega) (by omega)) (by rw [List.length_map]; exact hl)
theorem showD_of {d : D} {w n : Nat} (h : Sh d w n) (hw : w ≤ 60000) (hn : n ≤ 40) : showD d = true := by
  unfold showD
  have h5 := PyData.shown_le 13 (by decide) _ h.lv
  have h1 := h.wt
  have h2 := h.dp
  rw [h.pl, h.sh]
  simp only [Bool.true_and, decide_eq_true_eq]
  have e1 : decide ((pyD d).depth ≤ 40) = true := by rw [decide_eq_true_eq]; omega
  have e2 : decide ((pyD d).shown.length ≤ 1000000) = true := by rw [decide_eq_true_eq]; omega
  rw [e1, e2]
  rfl
/-! ### bent entries -/
def oddA (w : Str) (s : List P2) : List D := [.tup [.str w, .non], .tup [.str w, .tup [.tup [.int 1, .int 2]]], .tup [.str w], .tup [.str w, dStair s, .int 0], .tup [.str (Txt.upper w), dStair s], .tup [dStair s, .str w], .non, .int 5, .str w, .dct [] [], .tup [.non, dStair s], .tup [.lst [.str w], dStair s]]
def oddB (w : Str) (s : List P2) (d : D) : List D := [d, .tup [.str w, if w = "drawn" then .tup [.tup [.int 1, .int 0]] else .tup []], .tup [.str "win", dStair s], .tup [.str w, .tup [.non]], .tup [.str w, .tup [.tup [.bl true, .int 0]]], .tup [.str w, .tup [.tup [.int 0, .int 0]]]]
structure Odd (d : D) : Prop where
  no : ∀ S, φ_is_entry [d] S = .ok (.bl false) S
  sh : Sh d 25000 3
theorem up_won : Txt.upper "won" = "WON" := by decide +kernel
theorem up_lost : Txt.upper "lost" = "LOST" := by decide +kernel
theorem up_drawn : Txt.upper "drawn" = "DRAWN" := by decide +kernel
theorem sh_word {w : Str} (h : w = "won" ∨ w = "lost" ∨ w = "drawn") : Sh (.str w) 40 0 := by
  rcases h with rfl | rfl | rfl <;> exact sh_str (by decide +kernel) (by decide +kernel)
theorem sh_two {x y : D} (hx : Sh x 8300 2) (hy : Sh y 8300 2) : Sh (.tup [x, y]) 25000 3 := (sh_tup (k := 2) (w := 8300) (n := 2) (fun z hz => by
  simp only [List.mem_cons, List.not_mem_nil, or_false] at hz
  rcases hz with rfl | rfl
  · exact hx
  · exact hy) (Nat.le_refl _)).mono (by decide) (by decide)
theorem sh_one {x : D} {w n : Nat} (hx : Sh x w n) : Sh (.tup [x]) (1 * (w + 1)) (n + 1) := sh_tup (k := 1) (fun z hz => by
  simp only [List.mem_cons, List.not_mem_nil, or_false] at hz
  rw [hz]; exact hx) (Nat.le_refl _)
theorem sh_oneL {x : D} {w n : Nat} (hx : Sh x w n) : Sh (.lst [x]) (1 * (w + 1)) (n + 1) := sh_lst (k := 1) (fun z hz => by
  simp only [List.mem_cons, List.not_mem_nil, or_false] at hz
  rw [hz]; exact hx) (Nat.le_refl _)
theorem sh_pr {x y : D} {w n : Nat} (hx : Sh x w n) (hy : Sh y w n) : Sh (.tup [x, y]) (2 * (w + 1)) (n + 1) := sh_tup (k := 2) (fun z hz => by
  simp only [List.mem_cons, List.not_mem_nil, or_false] at hz
  rcases hz with rfl | rfl
  · exact hx
  · exact hy) (Nat.le_refl _)
theorem sh_three {x y z : D} (hx : Sh x 8300 2) (hy : Sh y 8300 2) (hz : Sh z 8300 2) : Sh (.tup [x, y, z]) 25000 3 := (sh_tup (k := 3) (w := 8300) (n := 2) (fun q hq => by
  simp only [List.mem_cons, List.not_mem_nil, or_false] at hq
  rcases hq with rfl | rfl | rfl
  · exact hx
  · exact hy
  · exact hz) (Nat.le_refl _)).mono (by decide) (by decide)
theorem oddA_ok {w : Str} {s : List P2} (h : Ent w s) {d : D} (hd : d ∈ oddA w s) : Odd d := by
  have sw : Sh (.str w) 8300 2 := (sh_word h.wd).mono (by decide) (by decide)
  have ss : Sh (dStair s) 8300 2 := sh_stair h.st (by omega) h.sl
  have sn : Sh .non 8300 2 := sh_non.mono (by decide) (by decide)
  have i0 : Sh (.int 0) 8300 2 := (sh_int (by decide)).mono (by decide) (by decide)
  simp only [oddA, List.mem_cons, List.not_mem_nil, or_false] at hd
  rcases hd with rfl | rfl | rfl | rfl | rfl | rfl | rfl | rfl | rfl | rfl | rfl | rfl
  · exact ⟨fun S => by rcases h.wd with e | e | e <;> (subst e; rfl), sh_two sw sn⟩
  · exact ⟨fun S => by rcases h.wd with e | e | e <;> (subst e; rfl), sh_two sw ((sh_one (sh_pr (sh_int (i := 1) (by decide)) (sh_int (i := 2) (by decide)))).mono (by decide) (by decide))⟩
  · exact ⟨fun S => rfl, (sh_one (sh_word h.wd)).mono (by decide) (by decide)⟩
  · exact ⟨fun S => rfl, sh_three sw ss i0⟩
  · refine ⟨fun S => ?_, ?_⟩
    · rcases h.wd with e | e | e
      · subst e; rw [up_won]; rfl
      · subst e; rw [up_lost]; rfl
      · subst e; rw [up_drawn]; rfl
    · refine sh_two ?_ ss
      rcases h.wd with e | e | e
      · subst e; rw [up_won]; exact (sh_str (by decide +kernel) (by decide +kernel)).mono (by decide) (by decide)
      · subst e; rw [up_lost]; exact (sh_str (by decide +kernel) (by decide +kernel)).mono (by decide) (by decide)
      · subst e; rw [up_drawn]; exact (sh_str (by decide +kernel) (by decide +kernel)).mono (by decide) (by decide)
  · exact ⟨fun S => rfl, sh_two ss sw⟩
  · exact ⟨fun S => rfl, sh_non.mono (by decide) (by decide)⟩
  · exact ⟨fun S => rfl, (sh_int (by decide)).mono (by decide) (by decide)⟩
  · exact ⟨fun S => rfl, (sh_word h.wd).mono (by decide) (by decide)⟩
  · exact ⟨fun S => rfl, sh_dct.mono (by decide) (by decide)⟩
  · exact ⟨fun S => rfl, sh_two sn ss⟩
  · exact ⟨fun S => rfl, sh_two ((sh_oneL (sh_word h.wd)).mono (by decide) (by decide)) ss⟩
theorem oddB_ok {w : Str} {s : List P2} (h : Ent w s) {c d : D} (hc : Odd c) (hd : d ∈ oddB w s c) : Odd d := by
  have sw : Sh (.str w) 8300 2 := (sh_word h.wd).mono (by decide) (by decide)
  have ss : Sh (dStair s) 8300 2 := sh_stair h.st (by omega) h.sl
  simp only [oddB, List.mem_cons, List.not_mem_nil, or_false] at hd
  rcases hd with rfl | rfl | rfl | rfl | rfl | rfl
  · exact hc
  · refine ⟨fun S => ?_, sh_two sw ?_⟩
    · rcases h.wd with e | e | e <;> (subst e; rfl)
    · split
      · exact (sh_one (sh_pr (sh_int (i := 1) (by decide)) (sh_int (i := 0) (by decide)))).mono (by decide) (by decide)
      · exact (sh_tup (xs := []) (k := 0) (w := 0) (n := 0) (fun x hx => absurd hx (by simp)) (by simp)).mono (by decide) (by decide)
  · exact ⟨fun S => rfl, sh_two ((sh_str (by decide +kernel) (by decide +kernel)).mono (by decide) (by decide)) ss⟩
  · exact ⟨fun S => by rcases h.wd with e | e | e <;> (subst e; rfl), sh_two sw ((sh_one sh_non).mono (by decide) (by decide))⟩
  · exact ⟨fun S => by rcases h.wd with e | e | e <;> (subst e; rfl), sh_two sw ((sh_one (sh_pr ((sh_bl true).mono (Nat.zero_le 40) (Nat.le_refl 0)) (sh_int (i := 0) (by decide)))).mono (by decide) (by decide))⟩
  · exact ⟨fun S => by rcases h.wd with e | e | e <;> (subst e; rfl), sh_two sw ((sh_one (sh_pr (sh_int (i := 0) (by decide)) (sh_int (i := 0) (by decide)))).mono (by decide) (by decide))⟩
def limL : List D := [.non, .int 0, .int 1000001, .bl true, .str "1", .int (-1)]
def cntL : List D := [.non, .int (-1), .int 6, .bl true, .str "0"]
theorem lim_bad {d : D} (h : d ∈ limL) (S : Sto) : φ_need_limit [d] S = .ex ⟨"BadNumber", ["value"], [d]⟩ S := by
  simp only [limL, List.mem_cons, List.not_mem_nil, or_false] at h
  rcases h with rfl | rfl | rfl | rfl | rfl | rfl <;> rfl
theorem cnt_bad {d : D} (h : d ∈ cntL) (S : Sto) : φ_need_count [d, .int 5] S = .ex ⟨"BadNumber", ["value"], [d]⟩ S := by
  simp only [cntL, List.mem_cons, List.not_mem_nil, or_false] at h
  rcases h with rfl | rfl | rfl | rfl | rfl <;> rfl
theorem lim_sh {d : D} (h : d ∈ limL) : Sh d 40 0 := by
  simp only [limL, List.mem_cons, List.not_mem_nil, or_false] at h
  rcases h with rfl | rfl | rfl | rfl | rfl | rfl
  · exact sh_non.mono (by decide) (by decide)
  · exact sh_int (by decide)
  · exact sh_int (by decide)
  · exact (sh_bl _).mono (by decide) (by decide)
  · exact sh_str (by decide +kernel) (by decide +kernel)
  · exact sh_int (by decide)
theorem cnt_sh {d : D} (h : d ∈ cntL) : Sh d 40 0 := by
  simp only [cntL, List.mem_cons, List.not_mem_nil, or_false] at h
  rcases h with rfl | rfl | rfl | rfl | rfl
  · exact sh_non.mono (by decide) (by decide)
  · exact sh_int (by decide)
  · exact sh_int (by decide)
  · exact (sh_bl _).mono (by decide) (by decide)
  · exact sh_str (by decide +kernel) (by decide +kernel)
/-- what is heard -/
def dHeard (a b c : D) : D := .lst [.tup [.str "entry", a], .tup [.str "number", b], .tup [.str "number", c]]
theorem heard_sh {a b c : D} (ha : Odd a) (hb : b ∈ limL) (hc : c ∈ cntL) : showD (dHeard a b c) = true := by
  have e1 : Sh (.str "entry") 25000 3 := (sh_str (by decide +kernel) (by decide +kernel)).mono (by decide) (by decide)
  have e2 : Sh (.str "number") 40 0 := sh_str (by decide +kernel) (by decide +kernel)
  refine showD_of (w := 60000) (n := 5) ?_ (by decide) (by decide)
  obtain ⟨a1, a2, a3, a4, a5⟩ := sh_pr e1 ha.sh
  obtain ⟨b1, b2, b3, b4, b5⟩ := sh_pr e2 (lim_sh hb)
  obtain ⟨c1, c2, c3, c4, c5⟩ := sh_pr e2 (cnt_sh hc)
  refine ⟨?_, ?_, ?_, ?_, ?_⟩
  · show (plD (.tup [.str "entry", a]) && (plD (.tup [.str "number", b]) && (plD (.tup [.str "number", c]) && true))) = true
    rw [a1, b1, c1]; rfl
  · show (PyData.showable (pyD (.tup [.str "entry", a])) && (PyData.showable (pyD (.tup [.str "number", b])) && (PyData.showable (pyD (.tup [.str "number", c])) && true))) = true
    rw [a2, b2, c2]; rfl
  · show (PyData.leavesShort 13 (pyD (.tup [.str "entry", a])) && (PyData.leavesShort 13 (pyD (.tup [.str "number", b])) && (PyData.leavesShort 13 (pyD (.tup [.str "number", c])) && true))) = true
    rw [a3, b3, c3]; rfl
  · show PyData.weight (pyD (.tup [.str "entry", a])) + 1 + (PyData.weight (pyD (.tup [.str "number", b])) + 1 + (PyData.weight (pyD (.tup [.str "number", c])) + 1 + 0)) ≤ 60000
    omega
  · show max (PyData.depth (pyD (.tup [.str "entry", a]))) (max (PyData.depth (pyD (.tup [.str "number", b]))) (max (PyData.depth (pyD (.tup [.str "number", c]))) 0)) + 1 ≤ 5
    omega
end DL

namespace DL
open PySem PySem.Spec PyProof.Rows L2
/-! KE4: the law's body; the law. -/
section
variable {S R : Sto} {Q : D → Sto → Prop} {QL : List D → Sto → Prop} {l : EL} {f g h3 : EE} {env : Env} {n : Int}
theorem isNotB {a b : Bool} : Ev (oIsNotB (.bl a) (.bl b) S) Q = Q (.bl (!decide (a = b))) S := Ev.of rfl
theorem isB {a b : Bool} : Ev (oIsB (.bl a) (.bl b) S) Q = Q (.bl (decide (a = b))) S := Ev.of rfl
theorem ev_callK1 {φ : List D → Sto → Res D} : Ev (eCallK φ 0 1 [0] eNil (eCons f eNil) env S) Q = Ev (f env S) fun d S => Ev (φ [d] S) Q := by
  show Ev (Res.bind _ _) Q = _
  rw [Ev.bind, ev_eNil, Ev.bind, ev_eCons]
  congr 1; funext d S
  rw [ev_eNil, Ev.noex]
  rfl
theorem ev_callK3 {φ : List D → Sto → Res D} : Ev (eCallK φ 0 3 [2, 1, 0] eNil (eCons f (eCons g (eCons h3 eNil))) env S) Q = Ev (f env S) fun a S => Ev (g env S) fun b S => Ev (h3 env S) fun c S => Ev (φ [c, b, a] S) Q := by
  show Ev (Res.bind _ _) Q = _
  rw [Ev.bind, ev_eNil, Ev.bind, ev_eCons]
  congr 1; funext d S
  rw [ev_eCons]
  congr 1; funext d S
  rw [ev_eCons]
  congr 1; funext d S
  rw [ev_eNil, Ev.noex]
  rfl
theorem ev_eApp {dd : List D} : Ev (eApp l dd env S) QL = Ev (l env S) fun ds S => QL (ds ++ dd) S := by
  unfold eApp
  rw [Ev.bind]
  congr 1
  funext ds S
  exact ev_ok
theorem ev_eUp : Ev (eUp f env S) Q = Ev (f env S) fun d S => Ev (upGo d S) Q := by
  unfold eUp
  rw [Ev.noex, Ev.bind]
theorem up_ev {w : Str} (h : w = "won" ∨ w = "lost" ∨ w = "drawn") : Ev (upGo (.str w) S) Q = Q (.str (Txt.upper w)) S := Ev.of (by
  show (if w.length ≤ 5592405 then Res.ok (D.str (Txt.upper w)) S else .stuck) = _
  rw [if_pos]
  rcases h with rfl | rfl | rfl <;> decide +kernel)
theorem ev_eReprD : Ev (eReprD f env S) Q = Ev (f env S) fun d S => Ev (reprGoD d S) Q := by
  unfold eReprD
  rw [Ev.noex, Ev.bind]
theorem reprD_ev {xs : List D} (h : showD (.lst xs) = true) : Ev (reprGoD (.lst xs) S) Q = Q (.str (pyD (.lst xs)).shown) S := Ev.of (by
  show (if showD (.lst xs) = true then _ else _) = _
  rw [if_pos h])
theorem ne_str (x : Str) : Ev (oNe (.str x) (.str x) S) Q = Q (.bl false) S := by
  rw [ne_strs, decide_eq_true rfl]
  rfl
theorem ev_eDct0 : Ev (eDct0 env S) Q = Q (.dct [] []) S := Ev.of rfl
theorem pow106 : Ev (oPow (.int 10) (.int 6) S) Q = Q (.int 1000000) S := ev_oPow (by decide)
theorem list_dPair (p : P2) : Ev (bList [dPair p] S) QL = QL [.int p.1, .int p.2] S := Ev.of rfl
theorem list_tup (ds : List D) : Ev (bList [.tup ds] S) QL = QL ds S := Ev.of rfl
theorem nil_stair {b : Int} : Stair b [] := ⟨fun p hp => absurd hp (by simp), List.Pairwise.nil⟩
abbrev V15 (a0 a2 a3 a4 a5 a7 a8 a9 a10 a11 a12 a13 : Option Slot) : Env := [a0, some (.sh (.mu 0)), a2, a3, a4, a5, none, a7, a8, a9, a10, a11, a12, a13]
variable {nx bk ct : Env → Sto → Prop} {rt : D → Sto → Prop} {a0 a2 a3 a4 a5 a7 a8 a9 a10 a11 a12 a13 : Option Slot}
theorem a_ev (h : PenR R n S) (hn : n < 900000) (q : ∀ (w : Str) (S' : Sto), (w = "won" ∨ w = "lost" ∨ w = "drawn") → PenR R (n + 1) S' → nx (V15 a0 a2 (some (.sh (.str w))) a4 a5 a7 a8 a9 a10 a11 a12 a13) S') : EvS (k15a (V15 a0 a2 a3 a4 a5 a7 a8 a9 a10 a11 a12 a13) S) nx rt bk ct := by
  unfold k15a
  simp only [↓es_set, ↓ev_eCall0, ↓ev_eCons, ↓ev_eV0, ↓ev_eVs, ↓ev_eLst, ↓ev_eDsp, ↓ev_eC, ↓ev_eNil]
  refine ⟨by show 3 ≤ 1000; decide, ?_⟩
  refine pick_k h (by omega) (by simp) (by simp) fun d S1 hd p1 => ?_
  simp only [List.mem_cons, List.not_mem_nil, or_false] at hd
  simp only [↓ws_0, ↓ws_s]
  rcases hd with rfl | rfl | rfl
  · exact q "won" S1 (.inl rfl) p1
  · exact q "lost" S1 (.inr (.inl rfl)) p1
  · exact q "drawn" S1 (.inr (.inr rfl)) p1
theorem b_ev {w : Str} (hw : w = "won" ∨ w = "lost" ∨ w = "drawn") (h : PenR R n S) (hn : n < 900000) (q : ∀ (s : List P2) (S' : Sto), Ent w s → PenR R (n + 12) S' → nx (V15 a0 a2 (some (.sh (.str w))) (some (.sh (dStair s))) a5 a7 a8 a9 a10 a11 a12 a13) S') : EvS (k15b (V15 a0 a2 (some (.sh (.str w))) a4 a5 a7 a8 a9 a10 a11 a12 a13) S) nx rt bk ct := by
  unfold k15b
  simp only [↓es_set, ↓ev_eIf, ↓ev_eTst, ↓ev_eBin, ↓ev_eVb0, ↓ev_eVbs, ↓ev_eC, ↓eq_strs]
  by_cases e : w = "drawn"
  · simp only [decide_eq_true e, if_true, ↓ev_eTup, ↓ev_eNil]
    refine ⟨by show 0 ≤ 1000; decide, ?_⟩
    simp only [↓ws_0, ↓ws_s]
    exact q [] S ⟨hw, nil_stair, by simp, by simp [e]⟩ (h.mono (by omega))
  · simp only [decide_eq_false e, Bool.false_eq_true, if_false, ↓ev_eCall0, ↓ev_eCons, ↓ev_eV0, ↓ev_eVs, ↓ev_eC, ↓ev_eNil]
    refine someStair_k (by omega) (by omega) h (by omega) fun s S1 hs hne hl p1 => ?_
    simp only [↓ws_0, ↓ws_s]
    exact q s S1 ⟨hw, hs.mono (by omega), hl, ⟨fun z => absurd z hne, fun z => absurd z e⟩⟩ p1
theorem c_ev {w : Str} {s : List P2} : EvS (k15c (V15 a0 a2 (some (.sh (.str w))) (some (.sh (dStair s))) a5 a7 a8 a9 a10 a11 a12 a13) S) nx rt bk ct = nx (V15 a0 a2 (some (.sh (.str w))) (some (.sh (dStair s))) (some (.sh (.tup [.str w, dStair s]))) a7 a8 a9 a10 a11 a12 a13) S := by
  have z2 : ∀ a b : D, ([a, b]).length ≤ 1000 := fun a b => by show 2 ≤ 1000; decide
  unfold k15c
  simp only [↓es_set, ↓ev_eTup, ↓ev_eCons, ↓ev_eV0, ↓ev_eVs, ↓ev_eNil, z2, true_and, ↓ws_0, ↓ws_s]
theorem d_ev {w : Str} {s : List P2} (h : Ent w s) : EvS (k15d (V15 a0 a2 (some (.sh (.str w))) (some (.sh (dStair s))) (some (.sh (.tup [.str w, dStair s]))) a7 a8 a9 a10 a11 a12 a13) S) nx rt bk ct = nx (V15 a0 a2 (some (.sh (.str w))) (some (.sh (dStair s))) (some (.sh (.tup [.str w, dStair s]))) a7 a8 a9 a10 a11 a12 a13) S := by
  have z2 : ∀ a b : D, ([a, b]).length ≤ 1000 := fun a b => by show 2 ≤ 1000; decide
  have h1 : ∀ {S : Sto} {Q : D → Sto → Prop}, Ev (φ_is_entry [.tup [.str w, dStair s]] S) Q = Q (.bl true) S := fun {S Q} => isEntry_ev h false false false
  have h2 : ∀ {S : Sto} {Q : D → Sto → Prop}, Ev (φ_is_entry [.lst [.str w, .lst (s.map (dIn true))]] S) Q = Q (.bl true) S := fun {S Q} => isEntry_ev h true true true
  unfold k15d
  simp only [↓es_if, ↓ev_eOrT, ↓ev_eTst, ↓ev_eBin, ↓ev_eCall0, ↓ev_eCons, ↓ev_eV0, ↓ev_eVs, ↓ev_eNil, ↓h1, ↓ev_eC, ↓isNotB, decide_true, Bool.not_true, Bool.false_eq_true, if_false, ↓ev_callK1, ↓ev_eLst, ↓ev_eDsp, ↓ev_eComp, ↓ev_iD, ↓wq_dS, ↓ww_0, ↓ww_s, ↓ws_0, ↓ws_s]
  rw [compGo_all dPair (dIn true) s fun p hp => by
    simp only [↓wg_n, ↓ws_0, ↓ws_s, ↓ev_eLst, ↓ev_eBltN, ↓ev_eCons, ↓ev_eVbs, ↓ev_eVb0, ↓ev_eNil, ↓list_dPair]
    first | exact ⟨rfl, rfl⟩ | exact ⟨rfl, trivial⟩ | trivial]
  simp only [z2, true_and, ↓h2, ↓ev_eC, ↓isNotB, decide_true, Bool.not_true, Bool.false_eq_true, if_false, ↓es_nil]
theorem e_ev {w : Str} {s : List P2} (he : Ent w s) (h : PenR R n S) (hn : n < 900000) (q : ∀ (d : D) (S' : Sto), Odd d → PenR R (n + 1) S' → nx (V15 a0 a2 (some (.sh (.str w))) (some (.sh (dStair s))) a5 (some (.sh d)) a8 a9 a10 a11 a12 a13) S') : EvS (k15e (V15 a0 a2 (some (.sh (.str w))) (some (.sh (dStair s))) a5 a7 a8 a9 a10 a11 a12 a13) S) nx rt bk ct := by
  have z1 : ∀ a : D, ([a]).length ≤ 1000 := fun a => by show 1 ≤ 1000; decide
  have z2 : ∀ a b : D, ([a, b]).length ≤ 1000 := fun a b => by show 2 ≤ 1000; decide
  have z3 : ∀ a b c : D, ([a, b, c]).length ≤ 1000 := fun a b c => by show 3 ≤ 1000; decide
  have z12 : ∀ a b c d e f g h i j k l : D, ([a, b, c, d, e, f, g, h, i, j, k, l]).length ≤ 1000 := fun a b c d e f g h i j k l => by show 12 ≤ 1000; decide
  have hu : ∀ {S : Sto} {Q : D → Sto → Prop}, Ev (upGo (.str w) S) Q = Q (.str (Txt.upper w)) S := fun {S Q} => up_ev he.wd
  unfold k15e
  simp only [↓es_set, ↓ev_eCall0, ↓ev_eCons, ↓ev_eV0, ↓ev_eVs, ↓ev_eLst, ↓ev_eDsp, ↓ev_eC, ↓ev_eTup, ↓ev_eNil, ↓ev_eUp, ↓hu, ↓ev_eDct0, z1, z2, z3, z12, true_and]
  refine pick_k h (by omega) (by simp) (by simp) fun d S1 hd p1 => ?_
  have hd' : d ∈ oddA w s := hd
  simp only [↓ws_0, ↓ws_s]
  exact q d S1 (oddA_ok he hd') p1
theorem f_ev {w : Str} {s : List P2} {c : D} (he : Ent w s) (hc : Odd c) (h : PenR R n S) (hn : n < 900000) (q : ∀ (d : D) (S' : Sto), Odd d → PenR R (n + 1) S' → nx (V15 a0 a2 (some (.sh (.str w))) (some (.sh (dStair s))) a5 (some (.sh d)) a8 a9 a10 a11 a12 a13) S') : EvS (k15f (V15 a0 a2 (some (.sh (.str w))) (some (.sh (dStair s))) a5 (some (.sh c)) a8 a9 a10 a11 a12 a13) S) nx rt bk ct := by
  have z0 : ([] : List D).length ≤ 1000 := by decide
  have z1 : ∀ a : D, ([a]).length ≤ 1000 := fun a => by show 1 ≤ 1000; decide
  have z2 : ∀ a b : D, ([a, b]).length ≤ 1000 := fun a b => by show 2 ≤ 1000; decide
  have z6 : ∀ a b c d e f : D, ([a, b, c, d, e, f]).length ≤ 1000 := fun a b c d e f => by show 6 ≤ 1000; decide
  unfold k15f
  simp only [↓es_set, ↓ev_eCall0, ↓ev_eCons, ↓ev_eV0, ↓ev_eVs, ↓ev_eLst, ↓ev_eDsp, ↓ev_eTup, ↓ev_eIf, ↓ev_eTst, ↓ev_eBin, ↓ev_eVb0, ↓ev_eVbs, ↓ev_eC, ↓eq_strs]
  by_cases e : w = "drawn"
  · simp only [decide_eq_true e, if_true, ↓ev_eTup, ↓ev_eCons, ↓ev_eC, ↓ev_eNil, ↓ev_eV0, ↓ev_eVs, z0, z1, z2, z6, true_and]
    refine pick_k h (by omega) (by simp) (by simp) fun d S1 hd p1 => ?_
    have hd' : d ∈ oddB w s c := by
      unfold oddB
      rw [if_pos e]
      exact hd
    simp only [↓ws_0, ↓ws_s]
    exact q d S1 (oddB_ok he hc hd') p1
  · simp only [decide_eq_false e, Bool.false_eq_true, if_false, ↓ev_eTup, ↓ev_eCons, ↓ev_eC, ↓ev_eNil, ↓ev_eV0, ↓ev_eVs, z0, z1, z2, z6, true_and]
    refine pick_k h (by omega) (by simp) (by simp) fun d S1 hd p1 => ?_
    have hd' : d ∈ oddB w s c := by
      unfold oddB
      rw [if_neg e]
      exact hd
    simp only [↓ws_0, ↓ws_s]
    exact q d S1 (oddB_ok he hc hd') p1
theorem g_ev {d : D} (hd : Odd d) : EvS (k15g (V15 a0 a2 a3 a4 a5 (some (.sh d)) a8 a9 a10 a11 a12 a13) S) nx rt bk ct = nx (V15 a0 a2 a3 a4 a5 (some (.sh d)) a8 a9 a10 a11 a12 a13) S := by
  have h1 : ∀ {S : Sto} {Q : D → Sto → Prop}, Ev (φ_is_entry [d] S) Q = Q (.bl false) S := fun {S Q} => Ev.of (hd.no S)
  unfold k15g
  simp only [↓es_if, ↓ev_eTst, ↓ev_eBin, ↓ev_eCall0, ↓ev_eCons, ↓ev_eV0, ↓ev_eVs, ↓ev_eNil, ↓h1, ↓ev_eC, ↓isNotB, decide_true, Bool.not_true, Bool.false_eq_true, if_false, ↓es_nil]
theorem h_ev {w : Str} {s : List P2} (he : Ent w s) (h : PenR R n S) (hn : n < 900000) (f8 : noOwn a8 = true) (f9 : noOwn a9 = true) (f10 : noOwn a10 = true) (q : ∀ (a8 a9 a10 : Option Slot) (S' : Sto), noOwn a8 = true → noOwn a9 = true → noOwn a10 = true → PenR R (n + 12) S' → nx (V15 a0 a2 a3 a4 (some (.sh (.tup [.str w, dStair s]))) a7 a8 a9 a10 a11 a12 a13) S') : EvS (k15h (V15 a0 a2 a3 a4 (some (.sh (.tup [.str w, dStair s]))) a7 a8 a9 a10 a11 a12 a13) S) nx rt bk ct := by
  unfold k15h
  simp only [↓es_for, ↓ev_iRg1, ↓ev_eC]
  refine ⟨by decide, ?_⟩
  refine forGo_inv (fun j env S' => (∃ b8 b9 b10 : Option Slot, env = V15 a0 a2 a3 a4 (some (.sh (.tup [.str w, dStair s]))) a7 b8 b9 b10 a11 a12 a13 ∧ noOwn b8 = true ∧ noOwn b9 = true ∧ noOwn b10 = true) ∧ PenR R (n + 2 * (j : Int)) S') (rangeD 0 (6 : Int).toNat) 0 ?_ _ _ ⟨⟨_, _, _, rfl, f8, f9, f10⟩, h.mono (by omega)⟩ ?_
  · rintro j d env S' hd ⟨⟨b8, b9, b10, rfl, g8, g9, g10⟩, hp⟩
    have hj : j < (6 : Int).toNat := by
      have := (List.getElem?_eq_some_iff.mp hd).1
      rwa [rangeD_len] at this
    rw [rangeD_get hj] at hd
    cases hd
    have hj' : j < 6 := hj
    simp only [↓wg_n, ↓ws_0, ↓ws_s, ↓es_seq, ↓es_set, ↓ev_eBin, ↓ev_eC, ↓ev_eCall0, ↓ev_eCons, ↓ev_eV0, ↓ev_eVs, ↓ev_eNil]
    refine draw_k hp (by omega) (by omega) (by omega) fun x S1 x0 x1 p1 => ?_
    simp only [↓ev_oAdd, ↓ws_0, ↓ws_s, ↓ev_eVb0, ↓ev_eVbs, ↓ev_eBin, ↓ev_eC, ↓ev_eNil]
    refine draw_k p1 (by omega) (by omega) (by omega) fun y S2 y0 y1 p2 => ?_
    have h1 : ∀ {S : Sto} {Q : D → Sto → Prop}, Ev (φ_worth [.tup [.str w, dStair s], .int (1 + x), .int y] S) Q = Q (.str (wv w s (1 + x) y)) S := fun {S Q} => worth_ev he false false false (by omega) (by omega) (by omega) (by omega)
    have h2 : ∀ {S : Sto} {Q : D → Sto → Prop}, Ev (φ_worth [.lst [.str w, dStair s], .int (1 + x), .int y] S) Q = Q (.str (wv w s (1 + x) y)) S := fun {S Q} => worth_ev he true false false (by omega) (by omega) (by omega) (by omega)
    have h3 : ∀ {S : Sto} {Q : D → Sto → Prop}, Ev (φ__law_own_worth [.tup [.str w, dStair s], .int (1 + x), .int y] S) Q = Q (.str (wv w s (1 + x) y)) S := fun {S Q} => ownWorth_ev he _ _
    simp only [↓ws_0, ↓ws_s, ↓es_if, ↓ev_eOrT, ↓ev_eTst, ↓ev_eBin, ↓ev_eCall, ↓ev_eCall0, ↓ev_eCons, ↓ev_eV0, ↓ev_eVs, ↓ev_eNil, ↓h1, ↓h3, ↓ne_str, Bool.false_eq_true, if_false, ↓ev_callK3, ↓ev_eLst, ↓ev_eBltN, ↓ev_eVbs, ↓ev_eVb0, ↓list_tup, ↓h2, ↓es_nil]
    refine ⟨⟨_, _, _, rfl, rfl, rfl, rfl⟩, p2.mono (by omega)⟩
  · rintro env S' ⟨⟨b8, b9, b10, rfl, g8, g9, g10⟩, hp⟩
    rw [rangeD_len] at hp
    exact q b8 b9 b10 S' g8 g9 g10 (hp.mono (by show n + 2 * ((0 + 6 : Nat) : Int) ≤ n + 12; omega))
theorem wv_nil (w : Str) (L c : Int) : wv w [] L c = "drawn" := rfl
theorem wv_far {w : Str} {s : List P2} {q : P2} (hs : Stair 11 (s ++ [q])) : wv w (s ++ [q]) 1000000 1000000 = if 0 < q.2 then ("drawn" : Str) else w := by
  have hf : (s ++ [q]).filter (fun p => decide (p.1 ≤ 1000000)) = s ++ [q] := List.filter_eq_self.mpr fun p hp => by
    have := hs.at_ p hp
    exact decide_eq_true (by omega)
  have e : numIn (s ++ [q]) 1000000 = some q.2 := by
    unfold numIn
    rw [hf, List.map_append, List.map_cons, List.map_nil, List.getLast?_concat]
  unfold wv
  rw [e]
  have := hs.at_ q (by simp)
  show (if q.2 ≤ 1000000 - 1000000 then w else "drawn") = _
  by_cases z : 0 < q.2
  · rw [if_pos z, if_neg (by omega)]
  · rw [if_neg z, if_pos (by omega)]
theorem i_ev {w : Str} {s : List P2} (he : Ent w s) : EvS (k15i (V15 a0 a2 (some (.sh (.str w))) (some (.sh (dStair s))) (some (.sh (.tup [.str w, dStair s]))) a7 a8 a9 a10 a11 a12 a13) S) nx rt bk ct = nx (V15 a0 a2 (some (.sh (.str w))) (some (.sh (dStair s))) (some (.sh (.tup [.str w, dStair s]))) a7 a8 a9 a10 a11 a12 a13) S := by
  have h1 : ∀ {S : Sto} {Q : D → Sto → Prop}, Ev (φ_worth [.tup [.str w, dStair s], .int 9, .int 0] S) Q = Q (.str (wv w s 9 0)) S := fun {S Q} => worth_ev he false false false (by omega) (by omega) (by omega) (by omega)
  have h2 : ∀ {S : Sto} {Q : D → Sto → Prop}, Ev (φ_worth [.tup [.str w, dStair s], .int 1000000, .int 1000000] S) Q = Q (.str (wv w s 1000000 1000000)) S := fun {S Q} => worth_ev he false false false (by omega) (by omega) (by omega) (by omega)
  have h3 : ∀ {S : Sto} {Q : D → Sto → Prop}, Ev (φ__law_own_worth [.tup [.str w, dStair s], .int 9, .int 0] S) Q = Q (.str (wv w s 9 0)) S := fun {S Q} => ownWorth_ev he _ _
  have z0 : ([] : List D).length ≤ 1000 := by decide
  unfold k15i
  simp only [↓es_if, ↓ev_eOrT, ↓ev_eTst, ↓ev_eBin, ↓ev_eCall, ↓ev_eApp, ↓ev_eCall0, ↓ev_eCons, ↓ev_eV0, ↓ev_eVs, ↓ev_eC, ↓ev_eNil, List.cons_append, List.nil_append, ↓h1, ↓h3, ↓ne_str, Bool.false_eq_true, if_false, ↓pow106, ↓h2, ↓ev_eIf, ↓ev_eVb0, ↓ev_eVbs, ↓ev_eTup, z0, true_and, ↓eq_emptyT]
  rcases snoc_of s with z | ⟨t, q, z⟩
  · subst z
    simp only [decide_true, if_true, ↓ev_eC, wv_nil, ↓ne_str, Bool.false_eq_true, if_false, ↓es_nil]
  · subst z
    have hne : ¬ (t ++ [q] = []) := by simp
    have hl : ∀ {S : Sto} {Q : D → Sto → Prop}, Ev (oIx (dStair (t ++ [q])) (.int (-1)) S) Q = Q (dPair q) S := fun {S Q} => by
      unfold dStair
      rw [List.map_append]
      exact ev_lastT
    have h1 : ∀ {S : Sto} {Q : D → Sto → Prop}, Ev (oIx (dPair q) (.int 1) S) Q = Q (.int q.2) S := fun {S Q} => Ev.of rfl
    simp only [decide_eq_false hne, Bool.false_eq_true, if_false, ↓ev_eTst, ↓ev_eBin, ↓ev_eVb0, ↓ev_eVbs, ↓ev_eNegI, ↓ev_eC, ↓hl, ↓h1, ↓ev_oGt, wv_far he.st]
    by_cases z : 0 < q.2
    · simp only [decide_eq_true z, if_true, if_pos z, ↓ev_eC, ↓ne_str, Bool.false_eq_true, if_false, ↓es_nil]
    · simp only [decide_eq_false z, Bool.false_eq_true, if_false, if_neg z, ↓ev_eV0, ↓ev_eVs, ↓ne_str, ↓es_nil]
theorem j_ev (h : PenR R n S) (hn : n < 900000) (q : ∀ (a b : D) (S' : Sto), a ∈ limL → b ∈ cntL → PenR R (n + 2) S' → nx (V15 a0 a2 a3 a4 a5 a7 a8 a9 a10 (some (.sh a)) (some (.sh b)) a13) S') : EvS (k15j (V15 a0 a2 a3 a4 a5 a7 a8 a9 a10 a11 a12 a13) S) nx rt bk ct := by
  have z6 : ∀ a b c d e f : D, ([a, b, c, d, e, f]).length ≤ 1000 := fun a b c d e f => by show 6 ≤ 1000; decide
  have z5 : ∀ a b c d e : D, ([a, b, c, d, e]).length ≤ 1000 := fun a b c d e => by show 5 ≤ 1000; decide
  have z2 : ∀ a b : D, ([a, b]).length ≤ 1000 := fun a b => by show 2 ≤ 1000; decide
  unfold k15j
  simp only [↓es_asgT, ↓ev_eTup, ↓ev_eCons, ↓ev_eCall0, ↓ev_eV0, ↓ev_eVs, ↓ev_eLst, ↓ev_eDsp, ↓ev_eC, ↓ev_eBin, ↓pow106, ↓ev_oAdd, ↓ev_eNegI, ↓ev_eNil, z6, true_and]
  refine pick_k h (by omega) (by simp) (by simp) fun a S1 ha p1 => ?_
  have ha' : a ∈ limL := ha
  simp only [↓ev_eCons, ↓ev_eCall0, ↓ev_eV0, ↓ev_eVs, ↓ev_eLst, ↓ev_eDsp, ↓ev_eC, ↓ev_eNegI, ↓ev_eNil, z5, true_and]
  refine pick_k p1 (by omega) (by simp) (by simp) fun b S2 hb p2 => ?_
  have hb' : b ∈ cntL := hb
  simp only [↓ev_eNil, z2, true_and, ↓wg_2, ↓wg_n, ↓ws_0, ↓ws_s]
  exact q a b S2 ha' hb' (p2.mono (by omega))
theorem heard_e {d : D} (h : env.all noOwn = true) (e : f env S = .ex ⟨"BadEntry", ["value"], [d]⟩ S) : Ev (eHeard ψ__law_heard f env S) Q = Q (.tup [.str "entry", d]) S := Ev.of (by
  unfold eHeard
  rw [if_pos h]
  show psiGo psiX (f env S) = _
  rw [e]
  rfl)
theorem heard_n {d : D} (h : env.all noOwn = true) (e : f env S = .ex ⟨"BadNumber", ["value"], [d]⟩ S) : Ev (eHeard ψ__law_heard f env S) Q = Q (.tup [.str "number", d]) S := Ev.of (by
  unfold eHeard
  rw [if_pos h]
  show psiGo psiX (f env S) = _
  rw [e]
  rfl)
theorem k_ev {w : Str} {s : List P2} {d a b : D} (he : Ent w s) (hd : Odd d) (ha : a ∈ limL) (hb : b ∈ cntL) (f0 : noOwn a0 = true) (f2 : noOwn a2 = true) (f3 : noOwn a3 = true) (f4 : noOwn a4 = true) (f8 : noOwn a8 = true) (f9 : noOwn a9 = true) (f10 : noOwn a10 = true) (f13 : noOwn a13 = true) :
    EvS (k15k (V15 a0 a2 a3 a4 (some (.sh (.tup [.str w, dStair s]))) (some (.sh d)) a8 a9 a10 (some (.sh a)) (some (.sh b)) a13) S) nx rt bk ct = nx (V15 a0 a2 a3 a4 (some (.sh (.tup [.str w, dStair s]))) (some (.sh d)) a8 a9 a10 (some (.sh a)) (some (.sh b)) (some (.sh (dHeard d a b)))) S := by
  have hfree : (V15 a0 a2 a3 a4 (some (.sh (.tup [.str w, dStair s]))) (some (.sh d)) a8 a9 a10 (some (.sh a)) (some (.sh b)) a13).all noOwn = true := by
    show (noOwn a0 && (true && (noOwn a2 && (noOwn a3 && (noOwn a4 && (true && (true && (true && (noOwn a8 && (noOwn a9 && (noOwn a10 && (true && (true && (noOwn a13 && true)))))))))))))) = true
    rw [f0, f2, f3, f4, f8, f9, f10, f13]
    rfl
  have z3 : ∀ a b c : D, ([a, b, c]).length ≤ 1000 := fun a b c => by show 3 ≤ 1000; decide
  unfold k15k
  simp only [↓es_set, ↓ev_eLst, ↓ev_eDsp, ↓ev_eCons, ↓ev_eNil]
  rw [heard_e (d := d) hfree (worth_bad (x := a) (y := b) (hd.no S))]
  rw [heard_n (d := a) hfree (worth_lim he (x := a) (y := b) (lim_bad ha S))]
  rw [heard_n (d := b) hfree (worth_cnt he (L := 5) (y := b) (by omega) (by omega) (cnt_bad hb S))]
  simp only [z3, true_and, ↓ws_0, ↓ws_s]
  rfl
theorem l_ev {d a b : D} (hd : Odd d) (ha : a ∈ limL) (hb : b ∈ cntL) : EvS (k15l (V15 a0 a2 a3 a4 a5 (some (.sh d)) a8 a9 a10 (some (.sh a)) (some (.sh b)) (some (.sh (dHeard d a b)))) S) nx rt bk ct = nx (V15 a0 a2 a3 a4 a5 (some (.sh d)) a8 a9 a10 (some (.sh a)) (some (.sh b)) (some (.sh (dHeard d a b)))) S := by
  have z2 : ∀ a b : D, ([a, b]).length ≤ 1000 := fun a b => by show 2 ≤ 1000; decide
  have z3 : ∀ a b c : D, ([a, b, c]).length ≤ 1000 := fun a b c => by show 3 ≤ 1000; decide
  have h1 : ∀ {S : Sto} {Q : D → Sto → Prop}, Ev (reprGoD (dHeard d a b) S) Q = Q (.str (pyD (dHeard d a b)).shown) S := fun {S Q} => reprD_ev (heard_sh hd ha hb)
  have h2 : ∀ {S : Sto} {Q : D → Sto → Prop}, Ev (reprGoD (.lst [.tup [.str "entry", d], .tup [.str "number", a], .tup [.str "number", b]]) S) Q = Q (.str (pyD (dHeard d a b)).shown) S := h1
  unfold k15l
  simp only [↓es_if, ↓ev_eTst, ↓ev_eBin, ↓ev_eReprD, ↓ev_eV0, ↓ev_eVs, ↓h1, ↓ev_eLst, ↓ev_eDsp, ↓ev_eCons, ↓ev_eTup, ↓ev_eC, ↓ev_eNil, z2, z3, true_and, ↓h2, ↓ne_str, Bool.false_eq_true, if_false, ↓es_nil]
/-! ### the body -/
def LawEnv (x0 : D) (env : Env) : Prop := ∃ a2 a3 a4 a5 a7 a8 a9 a10 a11 a12 a13 : Option Slot, env = V15 (some (.sh x0)) a2 a3 a4 a5 a7 a8 a9 a10 a11 a12 a13 ∧ noOwn a8 = true ∧ noOwn a9 = true ∧ noOwn a10 = true ∧ noOwn a13 = true
theorem body_ev {x0 : D} (hn : n < 100000) (h : PenR [] n S) (f2 : noOwn a2 = true) (f8 : noOwn a8 = true) (f9 : noOwn a9 = true) (f10 : noOwn a10 = true) (f13 : noOwn a13 = true) : EvS (k15Body (V15 (some (.sh x0)) a2 a3 a4 a5 a7 a8 a9 a10 a11 a12 a13) S) (fun env S' => LawEnv x0 env ∧ PenR [] (n + 40) S') rt bk (fun env S' => LawEnv x0 env ∧ PenR [] (n + 40) S') := by
  unfold k15Body
  rw [es_seq]
  refine a_ev h (by omega) fun w S1 hw p1 => ?_
  rw [es_seq]
  refine b_ev hw p1 (by omega) fun s S2 he p2 => ?_
  rw [es_seq, c_ev, es_seq, d_ev he, es_seq]
  refine e_ev he p2 (by omega) fun c S3 hc p3 => ?_
  rw [es_seq]
  refine f_ev he hc p3 (by omega) fun d S4 hd p4 => ?_
  rw [es_seq, g_ev hd, es_seq]
  refine h_ev he p4 (by omega) f8 f9 f10 fun b8 b9 b10 S5 g8 g9 g10 p5 => ?_
  rw [es_seq, i_ev he, es_seq]
  refine j_ev p5 (by omega) fun a b S6 ha hb p6 => ?_
  rw [es_seq, k_ev he hd ha hb rfl f2 rfl rfl g8 g9 g10 f13, l_ev hd ha hb]
  exact ⟨⟨_, _, _, _, _, _, _, _, _, _, _, rfl, g8, g9, g10, rfl⟩, p6.mono (by omega)⟩
/-! ### the end -/
theorem ent_w : Ent "won" [(1, 0)] := ⟨.inl rfl, ⟨fun p hp => by rw [List.mem_singleton.mp hp]; decide, List.pairwise_singleton _ _⟩, by decide, by decide +kernel⟩
theorem ent_l : Ent "lost" [(1, 0)] := ⟨.inr (.inl rfl), ⟨fun p hp => by rw [List.mem_singleton.mp hp]; decide, List.pairwise_singleton _ _⟩, by decide, by decide +kernel⟩
theorem ent_m : Ent "lost" [(1, 1)] := ⟨.inr (.inl rfl), ⟨fun p hp => by rw [List.mem_singleton.mp hp]; decide, List.pairwise_singleton _ _⟩, by decide, by decide +kernel⟩
theorem end_ev : EvS (k15End env S) nx (fun d _ => d = .bl true) bk ct := by
  have z1 : ∀ a : D, ([a]).length ≤ 1000 := fun a => by show 1 ≤ 1000; decide
  have z2 : ∀ a b : D, ([a, b]).length ≤ 1000 := fun a b => by show 2 ≤ 1000; decide
  have h1 : ∀ {S : Sto} {Q : D → Sto → Prop}, Ev (φ_is_entry [.tup [.str "won", .tup [.tup [.int 1, .int 0]]]] S) Q = Q (.bl true) S := fun {S Q} => isEntry_ev ent_w false false false
  have h2 : ∀ {S : Sto} {Q : D → Sto → Prop}, Ev (φ_worth [.tup [.str "lost", .tup [.tup [.int 1, .int 0]]], .int 4, .int 4] S) Q = Q (.str "lost") S := fun {S Q} => worth_ev ent_l false false false (by omega) (by omega) (by omega) (by omega)
  have h3 : ∀ {S : Sto} {Q : D → Sto → Prop}, Ev (φ_worth [.tup [.str "lost", .tup [.tup [.int 1, .int 1]]], .int 4, .int 4] S) Q = Q (.str "drawn") S := fun {S Q} => worth_ev ent_m false false false (by omega) (by omega) (by omega) (by omega)
  unfold k15End
  simp only [↓es_ret, ↓ev_eAnd, ↓ev_eBin, ↓ev_eCall0, ↓ev_eCall, ↓ev_eCons, ↓ev_eTup, ↓ev_eC, ↓ev_eNil, z1, z2, true_and, ↓h1, ↓isB, decide_true, if_true, ↓h2, ↓h3, ↓eq_strs]
theorem math (ns : List Int) (hl : ns.length ≤ 63) : ∃ S', φ_law [.lst (ns.map .int)] [] = .ok (.bl true) S' := by
  have z : Ev (φ_law [.lst (ns.map .int)] []) fun d _ => d = .bl true := by
    rw [e_law, b_law_eq]
    simp only [↓es_seq, ↓es_set, ↓ev_eCall0, ↓ev_eCons, ↓ev_eV0, ↓ev_eNil, ↓pen_ev hl, ↓ws_0, ↓ws_s, ↓es_for, ↓ev_iRg1, ↓ev_eC]
    refine ⟨by decide, ?_⟩
    refine forGo_inv (fun j env S' => LawEnv (.lst (ns.map .int)) env ∧ PenR [] (40 * (j : Int)) S') (rangeD 0 (16 : Int).toNat) 0 ?_ _ _ ⟨⟨_, _, _, _, _, _, _, _, _, _, _, rfl, rfl, rfl, rfl, rfl⟩, ns, 0, 0, rfl, by omega, by omega, by omega⟩ ?_
    · rintro j d env S' hd ⟨⟨a2, a3, a4, a5, a7, a8, a9, a10, a11, a12, a13, rfl, f8, f9, f10, f13⟩, hp⟩
      have hj : j < (16 : Int).toNat := by
        have := (List.getElem?_eq_some_iff.mp hd).1
        rwa [rangeD_len] at this
      rw [rangeD_get hj] at hd
      cases hd
      have hj' : j < 16 := hj
      simp only [↓wg_n, ↓ws_0, ↓ws_s]
      have e : (40 : Int) * ((0 + j + 1 : Nat) : Int) = 40 * ((0 + j : Nat) : Int) + 40 := by omega
      rw [e]
      exact body_ev (a2 := some (.sh (.int (0 + (j : Int))))) (n := 40 * ((0 + j : Nat) : Int)) (by omega) hp rfl f8 f9 f10 f13
    · rintro env S' ⟨he, hp⟩
      exact end_ev
  obtain ⟨d, S', e, rfl⟩ := z
  exact ⟨S', e⟩
end
end DL

namespace DL
open PySem PySem.Spec PyProof.Rows L2
theorem sc_is_integer : FnScope N_is_integer ["value"] (defScope st_is_integer) := ⟨rfl, rfl, rfl, by decide +kernel, rfl, by decide +kernel, by decide +kernel⟩
theorem sc_is_between : FnScope N_is_between ["value", "least", "most"] (defScope st_is_between) := ⟨rfl, rfl, rfl, by decide +kernel, rfl, by decide +kernel, by decide +kernel⟩
theorem sc_is_listed : FnScope N_is_listed ["value"] (defScope st_is_listed) := ⟨rfl, rfl, rfl, by decide +kernel, rfl, by decide +kernel, by decide +kernel⟩
theorem sc_number_in : FnScope N_number_in ["stair", "limit"] (defScope st_number_in) := ⟨rfl, rfl, rfl, by decide +kernel, rfl, by decide +kernel, by decide +kernel⟩
theorem sc_is_pair_of : FnScope N_is_pair_of ["value", "least", "most"] (defScope st_is_pair_of) := ⟨rfl, rfl, rfl, by decide +kernel, rfl, by decide +kernel, by decide +kernel⟩
theorem sc_fixed_stair : FnScope N_fixed_stair ["stair"] (defScope st_fixed_stair) := ⟨rfl, rfl, rfl, by decide +kernel, rfl, by decide +kernel, by decide +kernel⟩
theorem sc_need_count : FnScope N_need_count ["count", "most"] (defScope st_need_count) := ⟨rfl, rfl, rfl, by decide +kernel, rfl, by decide +kernel, by decide +kernel⟩
theorem sc_need_limit : FnScope N_need_limit ["limit"] (defScope st_need_limit) := ⟨rfl, rfl, rfl, by decide +kernel, rfl, by decide +kernel, by decide +kernel⟩
theorem sc_is_stair : FnScope N_is_stair ["value"] (defScope st_is_stair) := ⟨rfl, rfl, rfl, by decide +kernel, rfl, by decide +kernel, by decide +kernel⟩
theorem sc_fixed_entry : FnScope N_fixed_entry ["entry"] (defScope st_fixed_entry) := ⟨rfl, rfl, rfl, by decide +kernel, rfl, by decide +kernel, by decide +kernel⟩
theorem sc_worth_in : FnScope N_worth_in ["entry", "limit", "count"] (defScope st_worth_in) := ⟨rfl, rfl, rfl, by decide +kernel, rfl, by decide +kernel, by decide +kernel⟩
theorem sc_is_entry : FnScope N_is_entry ["value"] (defScope st_is_entry) := ⟨rfl, rfl, rfl, by decide +kernel, rfl, by decide +kernel, by decide +kernel⟩
theorem sc_need_entry : FnScope N_need_entry ["entry"] (defScope st_need_entry) := ⟨rfl, rfl, rfl, by decide +kernel, rfl, by decide +kernel, by decide +kernel⟩
theorem sc_worth : FnScope N_worth ["entry", "limit", "count"] (defScope st_worth) := ⟨rfl, rfl, rfl, by decide +kernel, rfl, by decide +kernel, by decide +kernel⟩
theorem sc__law_pen : FnScope N__law_pen ["script"] (defScope st__law_pen) := ⟨rfl, rfl, rfl, by decide +kernel, rfl, by decide +kernel, by decide +kernel⟩
theorem sc__law_draw : FnScope N__law_draw ["pen", "many"] (defScope st__law_draw) := ⟨rfl, rfl, rfl, by decide +kernel, rfl, by decide +kernel, by decide +kernel⟩
theorem sc__law_pick : FnScope N__law_pick ["pen", "some"] (defScope st__law_pick) := ⟨rfl, rfl, rfl, by decide +kernel, rfl, by decide +kernel, by decide +kernel⟩
theorem sc__law_heard_one : FnScope N__law_heard_one ["caught"] (defScope st__law_heard_one) := ⟨rfl, rfl, rfl, by decide +kernel, rfl, by decide +kernel, by decide +kernel⟩
theorem sc__law_heard : FnScope N__law_heard ["ask"] (defScope st__law_heard) := ⟨rfl, rfl, rfl, by decide +kernel, rfl, by decide +kernel, by decide +kernel⟩
theorem sc__law_number : FnScope N__law_number ["stair", "limit"] (defScope st__law_number) := ⟨rfl, rfl, rfl, by decide +kernel, rfl, by decide +kernel, by decide +kernel⟩
theorem sc__law_by_limits : FnScope N__law_by_limits ["pairs", "most"] (defScope st__law_by_limits) := ⟨rfl, rfl, rfl, by decide +kernel, rfl, by decide +kernel, by decide +kernel⟩
theorem sc__law_of_limits : FnScope N__law_of_limits ["row"] (defScope st__law_of_limits) := ⟨rfl, rfl, rfl, by decide +kernel, rfl, by decide +kernel, by decide +kernel⟩
theorem sc__law_pairs : FnScope N__law_pairs ["pen", "most"] (defScope st__law_pairs) := ⟨rfl, rfl, rfl, by decide +kernel, rfl, by decide +kernel, by decide +kernel⟩
theorem sc__law_most : FnScope N__law_most ["stairs"] (defScope st__law_most) := ⟨rfl, rfl, rfl, by decide +kernel, rfl, by decide +kernel, by decide +kernel⟩
theorem sc__law_stair : FnScope N__law_stair ["pen", "most"] (defScope st__law_stair) := ⟨rfl, rfl, rfl, by decide +kernel, rfl, by decide +kernel, by decide +kernel⟩
theorem sc__law_some_stair : FnScope N__law_some_stair ["pen", "most"] (defScope st__law_some_stair) := ⟨rfl, rfl, rfl, by decide +kernel, rfl, by decide +kernel, by decide +kernel⟩
theorem sc__law_own_worth : FnScope N__law_own_worth ["entry", "limit", "count"] (defScope st__law_own_worth) := ⟨rfl, rfl, rfl, by decide +kernel, rfl, by decide +kernel, by decide +kernel⟩
theorem sc_law : FnScope N_law ["script"] (defScope st_law) := ⟨rfl, rfl, rfl, by decide +kernel, rfl, by decide +kernel, by decide +kernel⟩
structure GG (P : Program) (K : PySem.W.Frag) (mg : Str → Option Value) where
  f_is_integer : Addr
  fd_is_integer : FuncData
  F_is_integer : Fun K "is_integer" "is_integer" st_is_integer f_is_integer fd_is_integer
  b_is_integer : Binds K fd_is_integer ["value"] []
  g_is_integer : mg "is_integer" = some (.ref f_is_integer)
  f_is_between : Addr
  fd_is_between : FuncData
  F_is_between : Fun K "is_between" "is_between" st_is_between f_is_between fd_is_between
  b_is_between : Binds K fd_is_between ["value", "least", "most"] []
  g_is_between : mg "is_between" = some (.ref f_is_between)
  f_is_listed : Addr
  fd_is_listed : FuncData
  F_is_listed : Fun K "is_listed" "is_listed" st_is_listed f_is_listed fd_is_listed
  b_is_listed : Binds K fd_is_listed ["value"] []
  g_is_listed : mg "is_listed" = some (.ref f_is_listed)
  f_number_in : Addr
  fd_number_in : FuncData
  F_number_in : Fun K "number_in" "number_in" st_number_in f_number_in fd_number_in
  b_number_in : Binds K fd_number_in ["stair", "limit"] []
  g_number_in : mg "number_in" = some (.ref f_number_in)
  f_is_pair_of : Addr
  fd_is_pair_of : FuncData
  F_is_pair_of : Fun K "is_pair_of" "is_pair_of" st_is_pair_of f_is_pair_of fd_is_pair_of
  b_is_pair_of : Binds K fd_is_pair_of ["value", "least", "most"] []
  g_is_pair_of : mg "is_pair_of" = some (.ref f_is_pair_of)
  f_fixed_stair : Addr
  fd_fixed_stair : FuncData
  F_fixed_stair : Fun K "fixed_stair" "fixed_stair" st_fixed_stair f_fixed_stair fd_fixed_stair
  b_fixed_stair : Binds K fd_fixed_stair ["stair"] []
  g_fixed_stair : mg "fixed_stair" = some (.ref f_fixed_stair)
  f_need_count : Addr
  fd_need_count : FuncData
  F_need_count : Fun K "need_count" "need_count" st_need_count f_need_count fd_need_count
  b_need_count : Binds K fd_need_count ["count", "most"] []
  g_need_count : mg "need_count" = some (.ref f_need_count)
  f_need_limit : Addr
  fd_need_limit : FuncData
  F_need_limit : Fun K "need_limit" "need_limit" st_need_limit f_need_limit fd_need_limit
  b_need_limit : Binds K fd_need_limit ["limit"] []
  g_need_limit : mg "need_limit" = some (.ref f_need_limit)
  f_is_stair : Addr
  fd_is_stair : FuncData
  F_is_stair : Fun K "is_stair" "is_stair" st_is_stair f_is_stair fd_is_stair
  b_is_stair : Binds K fd_is_stair ["value"] []
  g_is_stair : mg "is_stair" = some (.ref f_is_stair)
  f_fixed_entry : Addr
  fd_fixed_entry : FuncData
  F_fixed_entry : Fun K "fixed_entry" "fixed_entry" st_fixed_entry f_fixed_entry fd_fixed_entry
  b_fixed_entry : Binds K fd_fixed_entry ["entry"] []
  g_fixed_entry : mg "fixed_entry" = some (.ref f_fixed_entry)
  f_worth_in : Addr
  fd_worth_in : FuncData
  F_worth_in : Fun K "worth_in" "worth_in" st_worth_in f_worth_in fd_worth_in
  b_worth_in : Binds K fd_worth_in ["entry", "limit", "count"] []
  g_worth_in : mg "worth_in" = some (.ref f_worth_in)
  f_is_entry : Addr
  fd_is_entry : FuncData
  F_is_entry : Fun K "is_entry" "is_entry" st_is_entry f_is_entry fd_is_entry
  b_is_entry : Binds K fd_is_entry ["value"] []
  g_is_entry : mg "is_entry" = some (.ref f_is_entry)
  f_need_entry : Addr
  fd_need_entry : FuncData
  F_need_entry : Fun K "need_entry" "need_entry" st_need_entry f_need_entry fd_need_entry
  b_need_entry : Binds K fd_need_entry ["entry"] []
  g_need_entry : mg "need_entry" = some (.ref f_need_entry)
  f_worth : Addr
  fd_worth : FuncData
  F_worth : FunD K "worth" "worth" (defArgs st_worth) (defBody st_worth) (defScope st_worth) [.int 0] [] f_worth fd_worth
  bd_worth : ∃ ds, Vals [.int 0] ds ∧ Binds K fd_worth ["entry", "limit", "count"] ds
  b_worth : Binds K fd_worth ["entry", "limit", "count"] []
  g_worth : mg "worth" = some (.ref f_worth)
  f__law_pen : Addr
  fd__law_pen : FuncData
  F__law_pen : Fun K "_law_pen" "_law_pen" st__law_pen f__law_pen fd__law_pen
  b__law_pen : Binds K fd__law_pen ["script"] []
  g__law_pen : mg "_law_pen" = some (.ref f__law_pen)
  f__law_draw : Addr
  fd__law_draw : FuncData
  F__law_draw : Fun K "_law_draw" "_law_draw" st__law_draw f__law_draw fd__law_draw
  b__law_draw : Binds K fd__law_draw ["pen", "many"] []
  g__law_draw : mg "_law_draw" = some (.ref f__law_draw)
  f__law_pick : Addr
  fd__law_pick : FuncData
  F__law_pick : Fun K "_law_pick" "_law_pick" st__law_pick f__law_pick fd__law_pick
  b__law_pick : Binds K fd__law_pick ["pen", "some"] []
  g__law_pick : mg "_law_pick" = some (.ref f__law_pick)
  f__law_heard_one : Addr
  fd__law_heard_one : FuncData
  F__law_heard_one : Fun K "_law_heard_one" "_law_heard_one" st__law_heard_one f__law_heard_one fd__law_heard_one
  b__law_heard_one : Binds K fd__law_heard_one ["caught"] []
  g__law_heard_one : mg "_law_heard_one" = some (.ref f__law_heard_one)
  f__law_heard : Addr
  fd__law_heard : FuncData
  F__law_heard : Fun K "_law_heard" "_law_heard" st__law_heard f__law_heard fd__law_heard
  b__law_heard : Binds K fd__law_heard ["ask"] []
  g__law_heard : mg "_law_heard" = some (.ref f__law_heard)
  f__law_number : Addr
  fd__law_number : FuncData
  F__law_number : Fun K "_law_number" "_law_number" st__law_number f__law_number fd__law_number
  b__law_number : Binds K fd__law_number ["stair", "limit"] []
  g__law_number : mg "_law_number" = some (.ref f__law_number)
  f__law_by_limits : Addr
  fd__law_by_limits : FuncData
  F__law_by_limits : Fun K "_law_by_limits" "_law_by_limits" st__law_by_limits f__law_by_limits fd__law_by_limits
  b__law_by_limits : Binds K fd__law_by_limits ["pairs", "most"] []
  g__law_by_limits : mg "_law_by_limits" = some (.ref f__law_by_limits)
  f__law_of_limits : Addr
  fd__law_of_limits : FuncData
  F__law_of_limits : Fun K "_law_of_limits" "_law_of_limits" st__law_of_limits f__law_of_limits fd__law_of_limits
  b__law_of_limits : Binds K fd__law_of_limits ["row"] []
  g__law_of_limits : mg "_law_of_limits" = some (.ref f__law_of_limits)
  f__law_pairs : Addr
  fd__law_pairs : FuncData
  F__law_pairs : Fun K "_law_pairs" "_law_pairs" st__law_pairs f__law_pairs fd__law_pairs
  b__law_pairs : Binds K fd__law_pairs ["pen", "most"] []
  g__law_pairs : mg "_law_pairs" = some (.ref f__law_pairs)
  f__law_most : Addr
  fd__law_most : FuncData
  F__law_most : Fun K "_law_most" "_law_most" st__law_most f__law_most fd__law_most
  b__law_most : Binds K fd__law_most ["stairs"] []
  g__law_most : mg "_law_most" = some (.ref f__law_most)
  f__law_stair : Addr
  fd__law_stair : FuncData
  F__law_stair : Fun K "_law_stair" "_law_stair" st__law_stair f__law_stair fd__law_stair
  b__law_stair : Binds K fd__law_stair ["pen", "most"] []
  g__law_stair : mg "_law_stair" = some (.ref f__law_stair)
  f__law_some_stair : Addr
  fd__law_some_stair : FuncData
  F__law_some_stair : Fun K "_law_some_stair" "_law_some_stair" st__law_some_stair f__law_some_stair fd__law_some_stair
  b__law_some_stair : Binds K fd__law_some_stair ["pen", "most"] []
  g__law_some_stair : mg "_law_some_stair" = some (.ref f__law_some_stair)
  f__law_own_worth : Addr
  fd__law_own_worth : FuncData
  F__law_own_worth : Fun K "_law_own_worth" "_law_own_worth" st__law_own_worth f__law_own_worth fd__law_own_worth
  b__law_own_worth : Binds K fd__law_own_worth ["entry", "limit", "count"] []
  g__law_own_worth : mg "_law_own_worth" = some (.ref f__law_own_worth)
  kb_is_entry_0_value : KBinds K fd_is_entry ["value"] ["value"] (gK 0 1 [0]) (gK 0 1 [0])
  kb_worth_0_count_limit_entry : KBinds K fd_worth ["entry", "limit", "count"] ["count", "limit", "entry"] (gK 0 3 [2, 1, 0]) (gK 0 3 [2, 1, 0])
  z_isinstance : mg "isinstance" = none
  z_int : mg "int" = none
  z_bool : mg "bool" = none
  z_list : mg "list" = none
  z_tuple : mg "tuple" = none
  z_len : mg "len" = none
  z_all : mg "all" = none
  z_zip : mg "zip" = none
  z_str : mg "str" = none
  z_abs : mg "abs" = none
  z_range : mg "range" = none
  z_min : mg "min" = none
  z_enumerate : mg "enumerate" = none
  z_max : mg "max" = none
  z_repr : mg "repr" = none
  c_MOST_LIMIT : ∃ t, mg "MOST_LIMIT" = some (.int 1000000 t)
  c_WORDS : TupG K mg "WORDS" ["drawn", "won", "lost"]
  C_CountError : Addr
  C_BadName : Addr
  C_BadNumber : Addr
  C_BadCell : Addr
  C_BadSide : Addr
  C_BadLetter : Addr
  C_BadWay : Addr
  C_BadGame : Addr
  C_BadStanding : Addr
  C_BadPly : Addr
  C_BadClass : Addr
  C_BadKey : Addr
  C_BadStair : Addr
  C_BadEntry : Addr
  C_BadTable : Addr
  C_BadBook : Addr
  C_BadValue : Addr
  C_BadPaper : Addr
  C_Unlike : Addr
  C_Nothing : Addr
  C_BadText : Addr
  C_TooMany : Addr
  gc_CountError : mg "CountError" = some (.ref C_CountError)
  x_CountError : ExI K "CountError" C_CountError (veT)
  gc_BadName : mg "BadName" = some (.ref C_BadName)
  x_BadName : ExI K "BadName" C_BadName (.ref C_CountError :: veT)
  gc_BadNumber : mg "BadNumber" = some (.ref C_BadNumber)
  x_BadNumber : ExI K "BadNumber" C_BadNumber (.ref C_CountError :: veT)
  gc_BadCell : mg "BadCell" = some (.ref C_BadCell)
  x_BadCell : ExI K "BadCell" C_BadCell (.ref C_CountError :: veT)
  gc_BadSide : mg "BadSide" = some (.ref C_BadSide)
  x_BadSide : ExI K "BadSide" C_BadSide (.ref C_CountError :: veT)
  gc_BadLetter : mg "BadLetter" = some (.ref C_BadLetter)
  x_BadLetter : ExI K "BadLetter" C_BadLetter (.ref C_CountError :: veT)
  gc_BadWay : mg "BadWay" = some (.ref C_BadWay)
  x_BadWay : ExI K "BadWay" C_BadWay (.ref C_CountError :: veT)
  gc_BadGame : mg "BadGame" = some (.ref C_BadGame)
  x_BadGame : ExI K "BadGame" C_BadGame (.ref C_CountError :: veT)
  gc_BadStanding : mg "BadStanding" = some (.ref C_BadStanding)
  x_BadStanding : ExI K "BadStanding" C_BadStanding (.ref C_CountError :: veT)
  gc_BadPly : mg "BadPly" = some (.ref C_BadPly)
  x_BadPly : ExI K "BadPly" C_BadPly (.ref C_CountError :: veT)
  gc_BadClass : mg "BadClass" = some (.ref C_BadClass)
  x_BadClass : ExI K "BadClass" C_BadClass (.ref C_CountError :: veT)
  gc_BadKey : mg "BadKey" = some (.ref C_BadKey)
  x_BadKey : ExI K "BadKey" C_BadKey (.ref C_CountError :: veT)
  gc_BadStair : mg "BadStair" = some (.ref C_BadStair)
  x_BadStair : ExI K "BadStair" C_BadStair (.ref C_CountError :: veT)
  gc_BadEntry : mg "BadEntry" = some (.ref C_BadEntry)
  x_BadEntry : ExI K "BadEntry" C_BadEntry (.ref C_CountError :: veT)
  gc_BadTable : mg "BadTable" = some (.ref C_BadTable)
  x_BadTable : ExI K "BadTable" C_BadTable (.ref C_CountError :: veT)
  gc_BadBook : mg "BadBook" = some (.ref C_BadBook)
  x_BadBook : ExI K "BadBook" C_BadBook (.ref C_CountError :: veT)
  gc_BadValue : mg "BadValue" = some (.ref C_BadValue)
  x_BadValue : ExI K "BadValue" C_BadValue (.ref C_CountError :: veT)
  gc_BadPaper : mg "BadPaper" = some (.ref C_BadPaper)
  x_BadPaper : ExI K "BadPaper" C_BadPaper (.ref C_CountError :: veT)
  gc_Unlike : mg "Unlike" = some (.ref C_Unlike)
  x_Unlike : ExI K "Unlike" C_Unlike (.ref C_CountError :: veT)
  gc_Nothing : mg "Nothing" = some (.ref C_Nothing)
  x_Nothing : ExI K "Nothing" C_Nothing (.ref C_CountError :: veT)
  gc_BadText : mg "BadText" = some (.ref C_BadText)
  x_BadText : ExI K "BadText" C_BadText (.ref C_CountError :: veT)
  gc_TooMany : mg "TooMany" = some (.ref C_TooMany)
  x_TooMany : ExI K "TooMany" C_TooMany (.ref C_CountError :: veT)
  e_BadNumber : ExG K C_BadNumber
  fi_BadNumber : Addr
  cc_BadNumber : Addr
  cd_BadNumber : Addr
  s_BadNumber : PySem.SupX.SupC P K mg C_BadNumber cc_BadNumber cd_BadNumber
  i_BadNumber : ∀ w, InitF P w K mg C_BadNumber fi_BadNumber ["value"]
  n_BadNumber_value : PySem.W.findIn K (.ref C_BadNumber) "value" = some none
  e_BadEntry : ExG K C_BadEntry
  fi_BadEntry : Addr
  cc_BadEntry : Addr
  cd_BadEntry : Addr
  s_BadEntry : PySem.SupX.SupC P K mg C_BadEntry cc_BadEntry cd_BadEntry
  i_BadEntry : ∀ w, InitF P w K mg C_BadEntry fi_BadEntry ["value"]
  n_BadEntry_value : PySem.W.findIn K (.ref C_BadEntry) "value" = some none
theorem fit_G {P : Program} {K : PySem.W.Frag} {mg : Str → Option Value} (G : GG P K mg) : ∀ (k : Str) (C : Addr), (["BadNumber", "BadEntry"] : List Str).contains k = true → mg k = some (.ref C) → PySem.W.exmOne K (.ref C) (.ref G.C_CountError) = some true := by
  intro k C h hm
  have h2 : k ∈ (["BadNumber", "BadEntry"] : List Str) := by simpa using h
  rcases List.mem_cons.mp h2 with hk | h2
  · subst hk
    have e := G.gc_BadNumber.symm.trans hm
    have e : G.C_BadNumber = C := by simpa using e
    subst e
    exact exm_exc G.x_BadNumber G.x_CountError
  rcases List.mem_cons.mp h2 with hk | h2
  · subst hk
    have e := G.gc_BadEntry.symm.trans hm
    have e : G.C_BadEntry = C := by simpa using e
    subst e
    exact exm_exc G.x_BadEntry G.x_CountError
  · cases h2
theorem is_TooMany {P : Program} {K : PySem.W.Frag} {mg : Str → Option Value} (G : GG P K mg) : ∀ (k : Str) (C : Addr), (["BadNumber", "BadEntry"] : List Str).contains k = true → mg k = some (.ref C) → ExG K C ∧ PySem.W.kitOne K (.ref C) (.ref G.C_TooMany) = some (k == "TooMany") := by
  intro k C h hm
  have h2 : k ∈ (["BadNumber", "BadEntry"] : List Str) := by simpa using h
  rcases List.mem_cons.mp h2 with hk | h2
  · subst hk
    have e := G.gc_BadNumber.symm.trans hm
    have e : G.C_BadNumber = C := by simpa using e
    subst e
    exact ⟨G.e_BadNumber, kit_exc G.gc_BadNumber G.gc_TooMany G.x_BadNumber G.x_TooMany G.x_CountError (by decide)⟩
  rcases List.mem_cons.mp h2 with hk | h2
  · subst hk
    have e := G.gc_BadEntry.symm.trans hm
    have e : G.C_BadEntry = C := by simpa using e
    subst e
    exact ⟨G.e_BadEntry, kit_exc G.gc_BadEntry G.gc_TooMany G.x_BadEntry G.x_TooMany G.x_CountError (by decide)⟩
  · cases h2
theorem is_BadText {P : Program} {K : PySem.W.Frag} {mg : Str → Option Value} (G : GG P K mg) : ∀ (k : Str) (C : Addr), (["BadNumber", "BadEntry"] : List Str).contains k = true → mg k = some (.ref C) → ExG K C ∧ PySem.W.kitOne K (.ref C) (.ref G.C_BadText) = some (k == "BadText") := by
  intro k C h hm
  have h2 : k ∈ (["BadNumber", "BadEntry"] : List Str) := by simpa using h
  rcases List.mem_cons.mp h2 with hk | h2
  · subst hk
    have e := G.gc_BadNumber.symm.trans hm
    have e : G.C_BadNumber = C := by simpa using e
    subst e
    exact ⟨G.e_BadNumber, kit_exc G.gc_BadNumber G.gc_BadText G.x_BadNumber G.x_BadText G.x_CountError (by decide)⟩
  rcases List.mem_cons.mp h2 with hk | h2
  · subst hk
    have e := G.gc_BadEntry.symm.trans hm
    have e : G.C_BadEntry = C := by simpa using e
    subst e
    exact ⟨G.e_BadEntry, kit_exc G.gc_BadEntry G.gc_BadText G.x_BadEntry G.x_BadText G.x_CountError (by decide)⟩
  · cases h2
theorem is_BadSide {P : Program} {K : PySem.W.Frag} {mg : Str → Option Value} (G : GG P K mg) : ∀ (k : Str) (C : Addr), (["BadNumber", "BadEntry"] : List Str).contains k = true → mg k = some (.ref C) → ExG K C ∧ PySem.W.kitOne K (.ref C) (.ref G.C_BadSide) = some (k == "BadSide") := by
  intro k C h hm
  have h2 : k ∈ (["BadNumber", "BadEntry"] : List Str) := by simpa using h
  rcases List.mem_cons.mp h2 with hk | h2
  · subst hk
    have e := G.gc_BadNumber.symm.trans hm
    have e : G.C_BadNumber = C := by simpa using e
    subst e
    exact ⟨G.e_BadNumber, kit_exc G.gc_BadNumber G.gc_BadSide G.x_BadNumber G.x_BadSide G.x_CountError (by decide)⟩
  rcases List.mem_cons.mp h2 with hk | h2
  · subst hk
    have e := G.gc_BadEntry.symm.trans hm
    have e : G.C_BadEntry = C := by simpa using e
    subst e
    exact ⟨G.e_BadEntry, kit_exc G.gc_BadEntry G.gc_BadSide G.x_BadEntry G.x_BadSide G.x_CountError (by decide)⟩
  · cases h2
theorem is_BadCell {P : Program} {K : PySem.W.Frag} {mg : Str → Option Value} (G : GG P K mg) : ∀ (k : Str) (C : Addr), (["BadNumber", "BadEntry"] : List Str).contains k = true → mg k = some (.ref C) → ExG K C ∧ PySem.W.kitOne K (.ref C) (.ref G.C_BadCell) = some (k == "BadCell") := by
  intro k C h hm
  have h2 : k ∈ (["BadNumber", "BadEntry"] : List Str) := by simpa using h
  rcases List.mem_cons.mp h2 with hk | h2
  · subst hk
    have e := G.gc_BadNumber.symm.trans hm
    have e : G.C_BadNumber = C := by simpa using e
    subst e
    exact ⟨G.e_BadNumber, kit_exc G.gc_BadNumber G.gc_BadCell G.x_BadNumber G.x_BadCell G.x_CountError (by decide)⟩
  rcases List.mem_cons.mp h2 with hk | h2
  · subst hk
    have e := G.gc_BadEntry.symm.trans hm
    have e : G.C_BadEntry = C := by simpa using e
    subst e
    exact ⟨G.e_BadEntry, kit_exc G.gc_BadEntry G.gc_BadCell G.x_BadEntry G.x_BadCell G.x_CountError (by decide)⟩
  · cases h2
theorem is_BadNumber {P : Program} {K : PySem.W.Frag} {mg : Str → Option Value} (G : GG P K mg) : ∀ (k : Str) (C : Addr), (["BadNumber", "BadEntry"] : List Str).contains k = true → mg k = some (.ref C) → ExG K C ∧ PySem.W.kitOne K (.ref C) (.ref G.C_BadNumber) = some (k == "BadNumber") := by
  intro k C h hm
  have h2 : k ∈ (["BadNumber", "BadEntry"] : List Str) := by simpa using h
  rcases List.mem_cons.mp h2 with hk | h2
  · subst hk
    have e := G.gc_BadNumber.symm.trans hm
    have e : G.C_BadNumber = C := by simpa using e
    subst e
    exact ⟨G.e_BadNumber, kit_exc G.gc_BadNumber G.gc_BadNumber G.x_BadNumber G.x_BadNumber G.x_CountError (by decide)⟩
  rcases List.mem_cons.mp h2 with hk | h2
  · subst hk
    have e := G.gc_BadEntry.symm.trans hm
    have e : G.C_BadEntry = C := by simpa using e
    subst e
    exact ⟨G.e_BadEntry, kit_exc G.gc_BadEntry G.gc_BadNumber G.x_BadEntry G.x_BadNumber G.x_CountError (by decide)⟩
  · cases h2
theorem is_BadName {P : Program} {K : PySem.W.Frag} {mg : Str → Option Value} (G : GG P K mg) : ∀ (k : Str) (C : Addr), (["BadNumber", "BadEntry"] : List Str).contains k = true → mg k = some (.ref C) → ExG K C ∧ PySem.W.kitOne K (.ref C) (.ref G.C_BadName) = some (k == "BadName") := by
  intro k C h hm
  have h2 : k ∈ (["BadNumber", "BadEntry"] : List Str) := by simpa using h
  rcases List.mem_cons.mp h2 with hk | h2
  · subst hk
    have e := G.gc_BadNumber.symm.trans hm
    have e : G.C_BadNumber = C := by simpa using e
    subst e
    exact ⟨G.e_BadNumber, kit_exc G.gc_BadNumber G.gc_BadName G.x_BadNumber G.x_BadName G.x_CountError (by decide)⟩
  rcases List.mem_cons.mp h2 with hk | h2
  · subst hk
    have e := G.gc_BadEntry.symm.trans hm
    have e : G.C_BadEntry = C := by simpa using e
    subst e
    exact ⟨G.e_BadEntry, kit_exc G.gc_BadEntry G.gc_BadName G.x_BadEntry G.x_BadName G.x_CountError (by decide)⟩
  · cases h2
theorem is_BadEntry {P : Program} {K : PySem.W.Frag} {mg : Str → Option Value} (G : GG P K mg) : ∀ (k : Str) (C : Addr), (["BadNumber", "BadEntry"] : List Str).contains k = true → mg k = some (.ref C) → ExG K C ∧ PySem.W.kitOne K (.ref C) (.ref G.C_BadEntry) = some (k == "BadEntry") := by
  intro k C h hm
  have h2 : k ∈ (["BadNumber", "BadEntry"] : List Str) := by simpa using h
  rcases List.mem_cons.mp h2 with hk | h2
  · subst hk
    have e := G.gc_BadNumber.symm.trans hm
    have e : G.C_BadNumber = C := by simpa using e
    subst e
    exact ⟨G.e_BadNumber, kit_exc G.gc_BadNumber G.gc_BadEntry G.x_BadNumber G.x_BadEntry G.x_CountError (by decide)⟩
  rcases List.mem_cons.mp h2 with hk | h2
  · subst hk
    have e := G.gc_BadEntry.symm.trans hm
    have e : G.C_BadEntry = C := by simpa using e
    subst e
    exact ⟨G.e_BadEntry, kit_exc G.gc_BadEntry G.gc_BadEntry G.x_BadEntry G.x_BadEntry G.x_CountError (by decide)⟩
  · cases h2
theorem is_BadKey {P : Program} {K : PySem.W.Frag} {mg : Str → Option Value} (G : GG P K mg) : ∀ (k : Str) (C : Addr), (["BadNumber", "BadEntry"] : List Str).contains k = true → mg k = some (.ref C) → ExG K C ∧ PySem.W.kitOne K (.ref C) (.ref G.C_BadKey) = some (k == "BadKey") := by
  intro k C h hm
  have h2 : k ∈ (["BadNumber", "BadEntry"] : List Str) := by simpa using h
  rcases List.mem_cons.mp h2 with hk | h2
  · subst hk
    have e := G.gc_BadNumber.symm.trans hm
    have e : G.C_BadNumber = C := by simpa using e
    subst e
    exact ⟨G.e_BadNumber, kit_exc G.gc_BadNumber G.gc_BadKey G.x_BadNumber G.x_BadKey G.x_CountError (by decide)⟩
  rcases List.mem_cons.mp h2 with hk | h2
  · subst hk
    have e := G.gc_BadEntry.symm.trans hm
    have e : G.C_BadEntry = C := by simpa using e
    subst e
    exact ⟨G.e_BadEntry, kit_exc G.gc_BadEntry G.gc_BadKey G.x_BadEntry G.x_BadKey G.x_CountError (by decide)⟩
  · cases h2
theorem is_BadPly {P : Program} {K : PySem.W.Frag} {mg : Str → Option Value} (G : GG P K mg) : ∀ (k : Str) (C : Addr), (["BadNumber", "BadEntry"] : List Str).contains k = true → mg k = some (.ref C) → ExG K C ∧ PySem.W.kitOne K (.ref C) (.ref G.C_BadPly) = some (k == "BadPly") := by
  intro k C h hm
  have h2 : k ∈ (["BadNumber", "BadEntry"] : List Str) := by simpa using h
  rcases List.mem_cons.mp h2 with hk | h2
  · subst hk
    have e := G.gc_BadNumber.symm.trans hm
    have e : G.C_BadNumber = C := by simpa using e
    subst e
    exact ⟨G.e_BadNumber, kit_exc G.gc_BadNumber G.gc_BadPly G.x_BadNumber G.x_BadPly G.x_CountError (by decide)⟩
  rcases List.mem_cons.mp h2 with hk | h2
  · subst hk
    have e := G.gc_BadEntry.symm.trans hm
    have e : G.C_BadEntry = C := by simpa using e
    subst e
    exact ⟨G.e_BadEntry, kit_exc G.gc_BadEntry G.gc_BadPly G.x_BadEntry G.x_BadPly G.x_CountError (by decide)⟩
  · cases h2
theorem is_BadLetter {P : Program} {K : PySem.W.Frag} {mg : Str → Option Value} (G : GG P K mg) : ∀ (k : Str) (C : Addr), (["BadNumber", "BadEntry"] : List Str).contains k = true → mg k = some (.ref C) → ExG K C ∧ PySem.W.kitOne K (.ref C) (.ref G.C_BadLetter) = some (k == "BadLetter") := by
  intro k C h hm
  have h2 : k ∈ (["BadNumber", "BadEntry"] : List Str) := by simpa using h
  rcases List.mem_cons.mp h2 with hk | h2
  · subst hk
    have e := G.gc_BadNumber.symm.trans hm
    have e : G.C_BadNumber = C := by simpa using e
    subst e
    exact ⟨G.e_BadNumber, kit_exc G.gc_BadNumber G.gc_BadLetter G.x_BadNumber G.x_BadLetter G.x_CountError (by decide)⟩
  rcases List.mem_cons.mp h2 with hk | h2
  · subst hk
    have e := G.gc_BadEntry.symm.trans hm
    have e : G.C_BadEntry = C := by simpa using e
    subst e
    exact ⟨G.e_BadEntry, kit_exc G.gc_BadEntry G.gc_BadLetter G.x_BadEntry G.x_BadLetter G.x_CountError (by decide)⟩
  · cases h2
theorem is_BadStair {P : Program} {K : PySem.W.Frag} {mg : Str → Option Value} (G : GG P K mg) : ∀ (k : Str) (C : Addr), (["BadNumber", "BadEntry"] : List Str).contains k = true → mg k = some (.ref C) → ExG K C ∧ PySem.W.kitOne K (.ref C) (.ref G.C_BadStair) = some (k == "BadStair") := by
  intro k C h hm
  have h2 : k ∈ (["BadNumber", "BadEntry"] : List Str) := by simpa using h
  rcases List.mem_cons.mp h2 with hk | h2
  · subst hk
    have e := G.gc_BadNumber.symm.trans hm
    have e : G.C_BadNumber = C := by simpa using e
    subst e
    exact ⟨G.e_BadNumber, kit_exc G.gc_BadNumber G.gc_BadStair G.x_BadNumber G.x_BadStair G.x_CountError (by decide)⟩
  rcases List.mem_cons.mp h2 with hk | h2
  · subst hk
    have e := G.gc_BadEntry.symm.trans hm
    have e : G.C_BadEntry = C := by simpa using e
    subst e
    exact ⟨G.e_BadEntry, kit_exc G.gc_BadEntry G.gc_BadStair G.x_BadEntry G.x_BadStair G.x_CountError (by decide)⟩
  · cases h2
theorem is_BadClass {P : Program} {K : PySem.W.Frag} {mg : Str → Option Value} (G : GG P K mg) : ∀ (k : Str) (C : Addr), (["BadNumber", "BadEntry"] : List Str).contains k = true → mg k = some (.ref C) → ExG K C ∧ PySem.W.kitOne K (.ref C) (.ref G.C_BadClass) = some (k == "BadClass") := by
  intro k C h hm
  have h2 : k ∈ (["BadNumber", "BadEntry"] : List Str) := by simpa using h
  rcases List.mem_cons.mp h2 with hk | h2
  · subst hk
    have e := G.gc_BadNumber.symm.trans hm
    have e : G.C_BadNumber = C := by simpa using e
    subst e
    exact ⟨G.e_BadNumber, kit_exc G.gc_BadNumber G.gc_BadClass G.x_BadNumber G.x_BadClass G.x_CountError (by decide)⟩
  rcases List.mem_cons.mp h2 with hk | h2
  · subst hk
    have e := G.gc_BadEntry.symm.trans hm
    have e : G.C_BadEntry = C := by simpa using e
    subst e
    exact ⟨G.e_BadEntry, kit_exc G.gc_BadEntry G.gc_BadClass G.x_BadEntry G.x_BadClass G.x_CountError (by decide)⟩
  · cases h2
theorem is_BadStanding {P : Program} {K : PySem.W.Frag} {mg : Str → Option Value} (G : GG P K mg) : ∀ (k : Str) (C : Addr), (["BadNumber", "BadEntry"] : List Str).contains k = true → mg k = some (.ref C) → ExG K C ∧ PySem.W.kitOne K (.ref C) (.ref G.C_BadStanding) = some (k == "BadStanding") := by
  intro k C h hm
  have h2 : k ∈ (["BadNumber", "BadEntry"] : List Str) := by simpa using h
  rcases List.mem_cons.mp h2 with hk | h2
  · subst hk
    have e := G.gc_BadNumber.symm.trans hm
    have e : G.C_BadNumber = C := by simpa using e
    subst e
    exact ⟨G.e_BadNumber, kit_exc G.gc_BadNumber G.gc_BadStanding G.x_BadNumber G.x_BadStanding G.x_CountError (by decide)⟩
  rcases List.mem_cons.mp h2 with hk | h2
  · subst hk
    have e := G.gc_BadEntry.symm.trans hm
    have e : G.C_BadEntry = C := by simpa using e
    subst e
    exact ⟨G.e_BadEntry, kit_exc G.gc_BadEntry G.gc_BadStanding G.x_BadEntry G.x_BadStanding G.x_CountError (by decide)⟩
  · cases h2
theorem is_BadGame {P : Program} {K : PySem.W.Frag} {mg : Str → Option Value} (G : GG P K mg) : ∀ (k : Str) (C : Addr), (["BadNumber", "BadEntry"] : List Str).contains k = true → mg k = some (.ref C) → ExG K C ∧ PySem.W.kitOne K (.ref C) (.ref G.C_BadGame) = some (k == "BadGame") := by
  intro k C h hm
  have h2 : k ∈ (["BadNumber", "BadEntry"] : List Str) := by simpa using h
  rcases List.mem_cons.mp h2 with hk | h2
  · subst hk
    have e := G.gc_BadNumber.symm.trans hm
    have e : G.C_BadNumber = C := by simpa using e
    subst e
    exact ⟨G.e_BadNumber, kit_exc G.gc_BadNumber G.gc_BadGame G.x_BadNumber G.x_BadGame G.x_CountError (by decide)⟩
  rcases List.mem_cons.mp h2 with hk | h2
  · subst hk
    have e := G.gc_BadEntry.symm.trans hm
    have e : G.C_BadEntry = C := by simpa using e
    subst e
    exact ⟨G.e_BadEntry, kit_exc G.gc_BadEntry G.gc_BadGame G.x_BadEntry G.x_BadGame G.x_CountError (by decide)⟩
  · cases h2
theorem is_BadPaper {P : Program} {K : PySem.W.Frag} {mg : Str → Option Value} (G : GG P K mg) : ∀ (k : Str) (C : Addr), (["BadNumber", "BadEntry"] : List Str).contains k = true → mg k = some (.ref C) → ExG K C ∧ PySem.W.kitOne K (.ref C) (.ref G.C_BadPaper) = some (k == "BadPaper") := by
  intro k C h hm
  have h2 : k ∈ (["BadNumber", "BadEntry"] : List Str) := by simpa using h
  rcases List.mem_cons.mp h2 with hk | h2
  · subst hk
    have e := G.gc_BadNumber.symm.trans hm
    have e : G.C_BadNumber = C := by simpa using e
    subst e
    exact ⟨G.e_BadNumber, kit_exc G.gc_BadNumber G.gc_BadPaper G.x_BadNumber G.x_BadPaper G.x_CountError (by decide)⟩
  rcases List.mem_cons.mp h2 with hk | h2
  · subst hk
    have e := G.gc_BadEntry.symm.trans hm
    have e : G.C_BadEntry = C := by simpa using e
    subst e
    exact ⟨G.e_BadEntry, kit_exc G.gc_BadEntry G.gc_BadPaper G.x_BadEntry G.x_BadPaper G.x_CountError (by decide)⟩
  · cases h2
theorem is_BadValue {P : Program} {K : PySem.W.Frag} {mg : Str → Option Value} (G : GG P K mg) : ∀ (k : Str) (C : Addr), (["BadNumber", "BadEntry"] : List Str).contains k = true → mg k = some (.ref C) → ExG K C ∧ PySem.W.kitOne K (.ref C) (.ref G.C_BadValue) = some (k == "BadValue") := by
  intro k C h hm
  have h2 : k ∈ (["BadNumber", "BadEntry"] : List Str) := by simpa using h
  rcases List.mem_cons.mp h2 with hk | h2
  · subst hk
    have e := G.gc_BadNumber.symm.trans hm
    have e : G.C_BadNumber = C := by simpa using e
    subst e
    exact ⟨G.e_BadNumber, kit_exc G.gc_BadNumber G.gc_BadValue G.x_BadNumber G.x_BadValue G.x_CountError (by decide)⟩
  rcases List.mem_cons.mp h2 with hk | h2
  · subst hk
    have e := G.gc_BadEntry.symm.trans hm
    have e : G.C_BadEntry = C := by simpa using e
    subst e
    exact ⟨G.e_BadEntry, kit_exc G.gc_BadEntry G.gc_BadValue G.x_BadEntry G.x_BadValue G.x_CountError (by decide)⟩
  · cases h2
theorem is_BadBook {P : Program} {K : PySem.W.Frag} {mg : Str → Option Value} (G : GG P K mg) : ∀ (k : Str) (C : Addr), (["BadNumber", "BadEntry"] : List Str).contains k = true → mg k = some (.ref C) → ExG K C ∧ PySem.W.kitOne K (.ref C) (.ref G.C_BadBook) = some (k == "BadBook") := by
  intro k C h hm
  have h2 : k ∈ (["BadNumber", "BadEntry"] : List Str) := by simpa using h
  rcases List.mem_cons.mp h2 with hk | h2
  · subst hk
    have e := G.gc_BadNumber.symm.trans hm
    have e : G.C_BadNumber = C := by simpa using e
    subst e
    exact ⟨G.e_BadNumber, kit_exc G.gc_BadNumber G.gc_BadBook G.x_BadNumber G.x_BadBook G.x_CountError (by decide)⟩
  rcases List.mem_cons.mp h2 with hk | h2
  · subst hk
    have e := G.gc_BadEntry.symm.trans hm
    have e : G.C_BadEntry = C := by simpa using e
    subst e
    exact ⟨G.e_BadEntry, kit_exc G.gc_BadEntry G.gc_BadBook G.x_BadEntry G.x_BadBook G.x_CountError (by decide)⟩
  · cases h2
theorem is_BadTable {P : Program} {K : PySem.W.Frag} {mg : Str → Option Value} (G : GG P K mg) : ∀ (k : Str) (C : Addr), (["BadNumber", "BadEntry"] : List Str).contains k = true → mg k = some (.ref C) → ExG K C ∧ PySem.W.kitOne K (.ref C) (.ref G.C_BadTable) = some (k == "BadTable") := by
  intro k C h hm
  have h2 : k ∈ (["BadNumber", "BadEntry"] : List Str) := by simpa using h
  rcases List.mem_cons.mp h2 with hk | h2
  · subst hk
    have e := G.gc_BadNumber.symm.trans hm
    have e : G.C_BadNumber = C := by simpa using e
    subst e
    exact ⟨G.e_BadNumber, kit_exc G.gc_BadNumber G.gc_BadTable G.x_BadNumber G.x_BadTable G.x_CountError (by decide)⟩
  rcases List.mem_cons.mp h2 with hk | h2
  · subst hk
    have e := G.gc_BadEntry.symm.trans hm
    have e : G.C_BadEntry = C := by simpa using e
    subst e
    exact ⟨G.e_BadEntry, kit_exc G.gc_BadEntry G.gc_BadTable G.x_BadEntry G.x_BadTable G.x_CountError (by decide)⟩
  · cases h2
theorem is_Nothing {P : Program} {K : PySem.W.Frag} {mg : Str → Option Value} (G : GG P K mg) : ∀ (k : Str) (C : Addr), (["BadNumber", "BadEntry"] : List Str).contains k = true → mg k = some (.ref C) → ExG K C ∧ PySem.W.kitOne K (.ref C) (.ref G.C_Nothing) = some (k == "Nothing") := by
  intro k C h hm
  have h2 : k ∈ (["BadNumber", "BadEntry"] : List Str) := by simpa using h
  rcases List.mem_cons.mp h2 with hk | h2
  · subst hk
    have e := G.gc_BadNumber.symm.trans hm
    have e : G.C_BadNumber = C := by simpa using e
    subst e
    exact ⟨G.e_BadNumber, kit_exc G.gc_BadNumber G.gc_Nothing G.x_BadNumber G.x_Nothing G.x_CountError (by decide)⟩
  rcases List.mem_cons.mp h2 with hk | h2
  · subst hk
    have e := G.gc_BadEntry.symm.trans hm
    have e : G.C_BadEntry = C := by simpa using e
    subst e
    exact ⟨G.e_BadEntry, kit_exc G.gc_BadEntry G.gc_Nothing G.x_BadEntry G.x_Nothing G.x_CountError (by decide)⟩
  · cases h2
theorem is_Unlike {P : Program} {K : PySem.W.Frag} {mg : Str → Option Value} (G : GG P K mg) : ∀ (k : Str) (C : Addr), (["BadNumber", "BadEntry"] : List Str).contains k = true → mg k = some (.ref C) → ExG K C ∧ PySem.W.kitOne K (.ref C) (.ref G.C_Unlike) = some (k == "Unlike") := by
  intro k C h hm
  have h2 : k ∈ (["BadNumber", "BadEntry"] : List Str) := by simpa using h
  rcases List.mem_cons.mp h2 with hk | h2
  · subst hk
    have e := G.gc_BadNumber.symm.trans hm
    have e : G.C_BadNumber = C := by simpa using e
    subst e
    exact ⟨G.e_BadNumber, kit_exc G.gc_BadNumber G.gc_Unlike G.x_BadNumber G.x_Unlike G.x_CountError (by decide)⟩
  rcases List.mem_cons.mp h2 with hk | h2
  · subst hk
    have e := G.gc_BadEntry.symm.trans hm
    have e : G.C_BadEntry = C := by simpa using e
    subst e
    exact ⟨G.e_BadEntry, kit_exc G.gc_BadEntry G.gc_Unlike G.x_BadEntry G.x_Unlike G.x_CountError (by decide)⟩
  · cases h2
theorem is_BadWay {P : Program} {K : PySem.W.Frag} {mg : Str → Option Value} (G : GG P K mg) : ∀ (k : Str) (C : Addr), (["BadNumber", "BadEntry"] : List Str).contains k = true → mg k = some (.ref C) → ExG K C ∧ PySem.W.kitOne K (.ref C) (.ref G.C_BadWay) = some (k == "BadWay") := by
  intro k C h hm
  have h2 : k ∈ (["BadNumber", "BadEntry"] : List Str) := by simpa using h
  rcases List.mem_cons.mp h2 with hk | h2
  · subst hk
    have e := G.gc_BadNumber.symm.trans hm
    have e : G.C_BadNumber = C := by simpa using e
    subst e
    exact ⟨G.e_BadNumber, kit_exc G.gc_BadNumber G.gc_BadWay G.x_BadNumber G.x_BadWay G.x_CountError (by decide)⟩
  rcases List.mem_cons.mp h2 with hk | h2
  · subst hk
    have e := G.gc_BadEntry.symm.trans hm
    have e : G.C_BadEntry = C := by simpa using e
    subst e
    exact ⟨G.e_BadEntry, kit_exc G.gc_BadEntry G.gc_BadWay G.x_BadEntry G.x_BadWay G.x_CountError (by decide)⟩
  · cases h2
theorem fd_most {P : Program} {K : PySem.W.Frag} {mg : Str → Option Value} (G : GG P K mg) : ∀ (k : Str) (C : Addr), ([] : List Str).contains k = true → mg k = some (.ref C) → ExG K C ∧ PySem.W.findIn K (.ref C) "most" = some none := by
  intro k C h hm
  cases h
theorem fd_what {P : Program} {K : PySem.W.Frag} {mg : Str → Option Value} (G : GG P K mg) : ∀ (k : Str) (C : Addr), ([] : List Str).contains k = true → mg k = some (.ref C) → ExG K C ∧ PySem.W.findIn K (.ref C) "what" = some none := by
  intro k C h hm
  cases h
theorem fd_word {P : Program} {K : PySem.W.Frag} {mg : Str → Option Value} (G : GG P K mg) : ∀ (k : Str) (C : Addr), ([] : List Str).contains k = true → mg k = some (.ref C) → ExG K C ∧ PySem.W.findIn K (.ref C) "word" = some none := by
  intro k C h hm
  cases h
theorem fd_line {P : Program} {K : PySem.W.Frag} {mg : Str → Option Value} (G : GG P K mg) : ∀ (k : Str) (C : Addr), ([] : List Str).contains k = true → mg k = some (.ref C) → ExG K C ∧ PySem.W.findIn K (.ref C) "line" = some none := by
  intro k C h hm
  cases h
theorem fd_value {P : Program} {K : PySem.W.Frag} {mg : Str → Option Value} (G : GG P K mg) : ∀ (k : Str) (C : Addr), (["BadNumber", "BadEntry"] : List Str).contains k = true → mg k = some (.ref C) → ExG K C ∧ PySem.W.findIn K (.ref C) "value" = some none := by
  intro k C h hm
  have h2 : k ∈ (["BadNumber", "BadEntry"] : List Str) := by simpa using h
  rcases List.mem_cons.mp h2 with hk | h2
  · subst hk
    have e := G.gc_BadNumber.symm.trans hm
    have e : G.C_BadNumber = C := by simpa using e
    subst e
    exact ⟨G.e_BadNumber, G.n_BadNumber_value⟩
  rcases List.mem_cons.mp h2 with hk | h2
  · subst hk
    have e := G.gc_BadEntry.symm.trans hm
    have e : G.C_BadEntry = C := by simpa using e
    subst e
    exact ⟨G.e_BadEntry, G.n_BadEntry_value⟩
  · cases h2
theorem fd_part {P : Program} {K : PySem.W.Frag} {mg : Str → Option Value} (G : GG P K mg) : ∀ (k : Str) (C : Addr), ([] : List Str).contains k = true → mg k = some (.ref C) → ExG K C ∧ PySem.W.findIn K (.ref C) "part" = some none := by
  intro k C h hm
  cases h
theorem fd_name {P : Program} {K : PySem.W.Frag} {mg : Str → Option Value} (G : GG P K mg) : ∀ (k : Str) (C : Addr), ([] : List Str).contains k = true → mg k = some (.ref C) → ExG K C ∧ PySem.W.findIn K (.ref C) "name" = some none := by
  intro k C h hm
  cases h
theorem ok_is_integer {P : Program} {w : World} {K : PySem.W.Frag} {mg : Str → Option Value} {base : Heap} (G : GG P K mg) : FnOk P w K mg base (L2.CX P w) 1 G.f_is_integer G.fd_is_integer ["value"] (spD ⟨K, mg⟩ 1 φ_is_integer) :=
  fn_data (K := ⟨K, mg⟩) (k := 0) G.F_is_integer sc_is_integer fun cdv A outer s H E B hW hr tk hp => by
    have hu := hr.units
    have hu1 := hr.units1
    have nd := sc_is_integer.nd
    exact (ss_one (s_ret (d_and (d_isi rfl (by rfl) G.z_isinstance (by decide +kernel) (by rfl) G.z_int (by decide +kernel) (by decide) (bv 0)) (d_one (d_not (d_isi rfl (by rfl) G.z_isinstance (by decide +kernel) (by rfl) G.z_bool (by decide +kernel) (by decide) (bv 0)))))))
theorem ok_is_between {P : Program} {w : World} {K : PySem.W.Frag} {mg : Str → Option Value} {base : Heap} (G : GG P K mg) : FnOk P w K mg base (L2.CX P w) 2 G.f_is_between G.fd_is_between ["value", "least", "most"] (spD ⟨K, mg⟩ 3 φ_is_between) :=
  fn_data (K := ⟨K, mg⟩) (k := 1) G.F_is_between sc_is_between fun cdv A outer s H E B hW hr tk hp => by
    have hu := hr.units
    have hu1 := hr.units1
    have nd := sc_is_between.nd
    exact (ss_one (s_ret (d_and (d_call0 (ok_is_integer G) (hr.mono (by decide)) (by rfl) G.g_is_integer G.F_is_integer.kp G.b_is_integer (a_cons (dv 0) a_nil) rfl (eCons_len (fun _ _ _ _ h => eNil_len h))) (d_one (c_chain k_le k_le (bv 1) (bv 0) (bv 2))))))
theorem ok_is_listed {P : Program} {w : World} {K : PySem.W.Frag} {mg : Str → Option Value} {base : Heap} (G : GG P K mg) : FnOk P w K mg base (L2.CX P w) 1 G.f_is_listed G.fd_is_listed ["value"] (spD ⟨K, mg⟩ 1 φ_is_listed) :=
  fn_data (K := ⟨K, mg⟩) (k := 0) G.F_is_listed sc_is_listed fun cdv A outer s H E B hW hr tk hp => by
    have hu := hr.units
    have hu1 := hr.units1
    have nd := sc_is_listed.nd
    exact (ss_one (s_ret (d_isi2 rfl (by rfl) G.z_isinstance (by decide +kernel) (by rfl) G.z_list (by decide +kernel) (by rfl) G.z_tuple (by decide +kernel) (by decide) (by decide) (bv 0))))
theorem ok_number_in {P : Program} {w : World} {K : PySem.W.Frag} {mg : Str → Option Value} {base : Heap} (G : GG P K mg) : FnOk P w K mg base (L2.CX P w) 1 G.f_number_in G.fd_number_in ["stair", "limit"] (spD ⟨K, mg⟩ 2 φ_number_in) :=
  fn_data (K := ⟨K, mg⟩) (k := 0) G.F_number_in sc_number_in fun cdv A outer s H E B hW hr tk hp => by
    have hu := hr.units
    have hu1 := hr.units1
    have nd := sc_number_in.nd
    exact (ss_cons (s_setN (s_newLc (i := 2) rfl nd rfl rfl (sw_true rfl rfl rfl (by decide +kernel)) (i_seq rfl (dv 0)) (blkOk_by (own := [("first", 3), ("number", 4)]) (by kernel_rfl)) (fun _ _ _ _ _ => (g_tup rfl rfl (gs_cons (gn 3 nd) (gs_cons (gn 4 nd) gs_nil)))) (fun _ _ _ _ _ => ts_one (q_cmp k_le (bv 3) (bv 1))) (fun _ _ _ _ _ => (dv 4)) (by decide)))
    (ss_one (s_ret (d_if (q_tru (bv 2)) (c_ix (bv 2) (d_b (d_neg (d_b d_int)))) d_non))))
theorem ok_is_pair_of {P : Program} {w : World} {K : PySem.W.Frag} {mg : Str → Option Value} {base : Heap} (G : GG P K mg) : FnOk P w K mg base (L2.CX P w) 3 G.f_is_pair_of G.fd_is_pair_of ["value", "least", "most"] (spD ⟨K, mg⟩ 3 φ_is_pair_of) :=
  fn_data (K := ⟨K, mg⟩) (k := 2) G.F_is_pair_of sc_is_pair_of fun cdv A outer s H E B hW hr tk hp => by
    have hu := hr.units
    have hu1 := hr.units1
    have nd := sc_is_pair_of.nd
    exact (ss_cons (s_if (w_or (t_not (q_tru (d_b (d_call0 (ok_is_listed G) (hr.mono (by decide)) (by rfl) G.g_is_listed G.F_is_listed.kp G.b_is_listed (a_cons (dv 0) a_nil) rfl (eCons_len (fun _ _ _ _ h => eNil_len h)))))) (w_or1 (q_cmp (k_ne hu) (d_b (c_len G.z_len (ab_cons (bv 0) ab_nil))) (d_b d_int)))).pt (ss_one (s_ret d_bl)) ss_nil)
    (ss_one (s_ret (d_and (d_call0 (ok_is_between G) (hr.mono (by decide)) (by rfl) G.g_is_between G.F_is_between.kp G.b_is_between (a_cons (c_ix (bv 0) (d_b d_int)) (a_cons d_int (a_cons (d_gint G.c_MOST_LIMIT) a_nil))) rfl (eCons_len (eCons_len (eCons_len (fun _ _ _ _ h => eNil_len h))))) (d_one (d_call0 (ok_is_between G) (hr.mono (by decide)) (by rfl) G.g_is_between G.F_is_between.kp G.b_is_between (a_cons (c_ix (bv 0) (d_b d_int)) (a_cons (dv 1) (a_cons (dv 2) a_nil))) rfl (eCons_len (eCons_len (eCons_len (fun _ _ _ _ h => eNil_len h))))))))))
theorem ok_fixed_stair {P : Program} {w : World} {K : PySem.W.Frag} {mg : Str → Option Value} {base : Heap} (G : GG P K mg) : FnOk P w K mg base (L2.CX P w) 1 G.f_fixed_stair G.fd_fixed_stair ["stair"] (spD ⟨K, mg⟩ 1 φ_fixed_stair) :=
  fn_data (K := ⟨K, mg⟩) (k := 0) G.F_fixed_stair sc_fixed_stair fun cdv A outer s H E B hW hr tk hp => by
    have hu := hr.units
    have hu1 := hr.units1
    have nd := sc_fixed_stair.nd
    exact (ss_one (s_ret (c_tuple G.z_tuple (ab_cons (d_b (n_d (n_lc rfl nd (i_seq rfl (dv 0)) (blkOk_by (own := [("corner", 1)]) (by kernel_rfl)) (fun _ _ _ _ _ => (gn 1 nd)) (fun _ _ _ _ _ => ts_nil) (fun _ _ _ _ _ => (d_tup (a_cons (c_ix (bv 1) (d_b d_int)) (a_cons (c_ix (bv 1) (d_b d_int)) a_nil)))) (by decide)))) ab_nil))))
theorem ok_need_count {P : Program} {w : World} {K : PySem.W.Frag} {mg : Str → Option Value} {base : Heap} (G : GG P K mg) : FnOk P w K mg base (L2.CX P w) 3 G.f_need_count G.fd_need_count ["count", "most"] (spD ⟨K, mg⟩ 2 φ_need_count) :=
  fn_data (K := ⟨K, mg⟩) (k := 2) G.F_need_count sc_need_count fun cdv A outer s H E B hW hr tk hp => by
    have hu := hr.units
    have hu1 := hr.units1
    have nd := sc_need_count.nd
    exact (ss_one (s_if (t_not (q_tru (d_b (d_call0 (ok_is_between G) (hr.mono (by decide)) (by rfl) G.g_is_between G.F_is_between.kp G.b_is_between (a_cons (dv 0) (a_cons d_int (a_cons (dv 1) a_nil))) rfl (eCons_len (eCons_len (eCons_len (fun _ _ _ _ h => eNil_len h)))))))) (ss_one (s_raise rfl rfl tk G.s_BadNumber (G.i_BadNumber _) hr (by rfl) G.gc_BadNumber (a_cons (dv 0) a_nil))) ss_nil))
theorem ok_need_limit {P : Program} {w : World} {K : PySem.W.Frag} {mg : Str → Option Value} {base : Heap} (G : GG P K mg) : FnOk P w K mg base (L2.CX P w) 3 G.f_need_limit G.fd_need_limit ["limit"] (spD ⟨K, mg⟩ 1 φ_need_limit) :=
  fn_data (K := ⟨K, mg⟩) (k := 2) G.F_need_limit sc_need_limit fun cdv A outer s H E B hW hr tk hp => by
    have hu := hr.units
    have hu1 := hr.units1
    have nd := sc_need_limit.nd
    exact (ss_one (s_if (t_not (q_tru (d_b (d_call0 (ok_is_between G) (hr.mono (by decide)) (by rfl) G.g_is_between G.F_is_between.kp G.b_is_between (a_cons (dv 0) (a_cons d_int (a_cons (d_gint G.c_MOST_LIMIT) a_nil))) rfl (eCons_len (eCons_len (eCons_len (fun _ _ _ _ h => eNil_len h)))))))) (ss_one (s_raise rfl rfl tk G.s_BadNumber (G.i_BadNumber _) hr (by rfl) G.gc_BadNumber (a_cons (dv 0) a_nil))) ss_nil))
theorem ok_is_stair {P : Program} {w : World} {K : PySem.W.Frag} {mg : Str → Option Value} {base : Heap} (G : GG P K mg) : FnOk P w K mg base (L2.CX P w) 4 G.f_is_stair G.fd_is_stair ["value"] (spD ⟨K, mg⟩ 1 φ_is_stair) :=
  fn_data (K := ⟨K, mg⟩) (k := 3) G.F_is_stair sc_is_stair fun cdv A outer s H E B hW hr tk hp => by
    have hu := hr.units
    have hu1 := hr.units1
    have nd := sc_is_stair.nd
    exact (ss_cons (s_if (w_or (t_not (q_tru (d_b (d_call0 (ok_is_listed G) (hr.mono (by decide)) (by rfl) G.g_is_listed G.F_is_listed.kp G.b_is_listed (a_cons (dv 0) a_nil) rfl (eCons_len (fun _ _ _ _ h => eNil_len h)))))) (w_or1 (t_not (q_tru (d_b (c_all rfl G.z_all (ab_cons (d_b (n_d (n_lc rfl nd (i_seq rfl (dv 0)) (blkOk_by (own := [("corner", 1)]) (by kernel_rfl)) (fun _ _ _ _ _ => (gn 1 nd)) (fun _ _ _ _ _ => ts_nil) (fun _ _ _ _ _ => (d_call0 (ok_is_pair_of G) (hr.mono (by decide)) (by rfl) G.g_is_pair_of G.F_is_pair_of.kp G.b_is_pair_of (a_cons (dv 1) (a_cons d_int (a_cons (d_gint G.c_MOST_LIMIT) a_nil))) rfl (eCons_len (eCons_len (eCons_len (fun _ _ _ _ h => eNil_len h)))))) (by decide)))) ab_nil))))))).pt (ss_one (s_ret d_bl)) ss_nil)
    (ss_cons (s_if (t_not (q_tru (d_b (c_all rfl G.z_all (ab_cons (d_b (n_d (n_lc rfl nd (i_seq rfl (dv 0)) (blkOk_by (own := [("limit", 2), ("number", 3)]) (by kernel_rfl)) (fun _ _ _ _ _ => (g_tup rfl rfl (gs_cons (gn 2 nd) (gs_cons (gn 3 nd) gs_nil)))) (fun _ _ _ _ _ => ts_nil) (fun _ _ _ _ _ => (c_cmp k_le (bv 3) (bv 2))) (by decide)))) ab_nil))))) (ss_one (s_ret d_bl)) ss_nil)
    (ss_one (s_ret (c_all rfl G.z_all (ab_cons (d_b (n_d (n_lc rfl nd (i_zip rfl (by rfl) G.z_zip (dv 0) (d_slice rfl (bv 0) (po_so d_int) po_no)) (blkOk_by (own := [("one", 4), ("other", 5)]) (by kernel_rfl)) (fun _ _ _ _ _ => (g_tup rfl rfl (gs_cons (gn 4 nd) (gs_cons (gn 5 nd) gs_nil)))) (fun _ _ _ _ _ => ts_nil) (fun _ _ _ _ _ => (d_and (c_cmp k_lt (d_b (c_ix (bv 4) (d_b d_int))) (d_b (c_ix (bv 5) (d_b d_int)))) (d_one (c_cmp k_gt (d_b (c_ix (bv 4) (d_b d_int))) (d_b (c_ix (bv 5) (d_b d_int))))))) (by decide)))) ab_nil))))))
theorem ok_fixed_entry {P : Program} {w : World} {K : PySem.W.Frag} {mg : Str → Option Value} {base : Heap} (G : GG P K mg) : FnOk P w K mg base (L2.CX P w) 2 G.f_fixed_entry G.fd_fixed_entry ["entry"] (spD ⟨K, mg⟩ 1 φ_fixed_entry) :=
  fn_data (K := ⟨K, mg⟩) (k := 1) G.F_fixed_entry sc_fixed_entry fun cdv A outer s H E B hW hr tk hp => by
    have hu := hr.units
    have hu1 := hr.units1
    have nd := sc_fixed_entry.nd
    exact (ss_one (s_ret (d_tup (a_cons (c_ix (bv 0) (d_b d_int)) (a_cons (d_call0 (ok_fixed_stair G) (hr.mono (by decide)) (by rfl) G.g_fixed_stair G.F_fixed_stair.kp G.b_fixed_stair (a_cons (c_ix (bv 0) (d_b d_int)) a_nil) rfl (eCons_len (fun _ _ _ _ h => eNil_len h))) a_nil)))))
theorem ok_worth_in {P : Program} {w : World} {K : PySem.W.Frag} {mg : Str → Option Value} {base : Heap} (G : GG P K mg) : FnOk P w K mg base (L2.CX P w) 2 G.f_worth_in G.fd_worth_in ["entry", "limit", "count"] (spD ⟨K, mg⟩ 3 φ_worth_in) :=
  fn_data (K := ⟨K, mg⟩) (k := 1) G.F_worth_in sc_worth_in fun cdv A outer s H E B hW hr tk hp => by
    have hu := hr.units
    have hu1 := hr.units1
    have nd := sc_worth_in.nd
    exact (ss_cons (s_set (ps_set (i := 3) nd rfl (Or.inl rfl) (d_call0 (ok_number_in G) (hr.mono (by decide)) (by rfl) G.g_number_in G.F_number_in.kp G.b_number_in (a_cons (c_ix (bv 0) (d_b d_int)) (a_cons (dv 1) a_nil)) rfl (eCons_len (eCons_len (fun _ _ _ _ h => eNil_len h))))))
    (ss_one (s_ret (d_if (w_and (q_cmp k_isnot (bv 3) (d_b d_non)) (w_and1 (q_cmp k_le (bv 3) (d_b (c_sub (bv 1) (bv 2)))))).pt (c_ix (bv 0) (d_b d_int)) d_str))))
theorem ok_is_entry {P : Program} {w : World} {K : PySem.W.Frag} {mg : Str → Option Value} {base : Heap} (G : GG P K mg) : FnOk P w K mg base (L2.CX P w) 5 G.f_is_entry G.fd_is_entry ["value"] (spD ⟨K, mg⟩ 1 φ_is_entry) :=
  fn_data (K := ⟨K, mg⟩) (k := 4) G.F_is_entry sc_is_entry fun cdv A outer s H E B hW hr tk hp => by
    have hu := hr.units
    have hu1 := hr.units1
    have nd := sc_is_entry.nd
    exact (ss_cons (s_if (w_or (t_not (q_tru (d_b (d_call0 (ok_is_listed G) (hr.mono (by decide)) (by rfl) G.g_is_listed G.F_is_listed.kp G.b_is_listed (a_cons (dv 0) a_nil) rfl (eCons_len (fun _ _ _ _ h => eNil_len h)))))) (w_or (q_cmp (k_ne hu) (d_b (c_len G.z_len (ab_cons (bv 0) ab_nil))) (d_b d_int)) (w_or (t_not (q_tru (d_b (d_isi rfl (by rfl) G.z_isinstance (by decide +kernel) (by rfl) G.z_str (by decide +kernel) (by decide) (d_b (c_ix (bv 0) (d_b d_int))))))) (w_or1 (q_notinF (d_b (c_ix (bv 0) (d_b d_int))) (d_b (d_gtup G.c_WORDS))))))).pt (ss_one (s_ret d_bl)) ss_nil)
    (ss_one (s_ret (d_and (d_call0 (ok_is_stair G) (hr.mono (by decide)) (by rfl) G.g_is_stair G.F_is_stair.kp G.b_is_stair (a_cons (c_ix (bv 0) (d_b d_int)) a_nil) rfl (eCons_len (fun _ _ _ _ h => eNil_len h))) (d_one (c_cmp (k_eq hu) (d_b (c_cmp (k_eq hu) (d_b (c_len G.z_len (ab_cons (d_b (c_ix (bv 0) (d_b d_int))) ab_nil))) (d_b d_int))) (d_b (c_cmp (k_eq hu) (d_b (c_ix (bv 0) (d_b d_int))) (d_b d_str)))))))))
theorem ok_need_entry {P : Program} {w : World} {K : PySem.W.Frag} {mg : Str → Option Value} {base : Heap} (G : GG P K mg) : FnOk P w K mg base (L2.CX P w) 6 G.f_need_entry G.fd_need_entry ["entry"] (spD ⟨K, mg⟩ 1 φ_need_entry) :=
  fn_data (K := ⟨K, mg⟩) (k := 5) G.F_need_entry sc_need_entry fun cdv A outer s H E B hW hr tk hp => by
    have hu := hr.units
    have hu1 := hr.units1
    have nd := sc_need_entry.nd
    exact (ss_cons (s_if (t_not (q_tru (d_b (d_call0 (ok_is_entry G) (hr.mono (by decide)) (by rfl) G.g_is_entry G.F_is_entry.kp G.b_is_entry (a_cons (dv 0) a_nil) rfl (eCons_len (fun _ _ _ _ h => eNil_len h)))))) (ss_one (s_raise rfl rfl tk G.s_BadEntry (G.i_BadEntry _) hr (by rfl) G.gc_BadEntry (a_cons (dv 0) a_nil))) ss_nil)
    (ss_one (s_ret (d_call0 (ok_fixed_entry G) (hr.mono (by decide)) (by rfl) G.g_fixed_entry G.F_fixed_entry.kp G.b_fixed_entry (a_cons (dv 0) a_nil) rfl (eCons_len (fun _ _ _ _ h => eNil_len h))))))
theorem ok_worth {P : Program} {w : World} {K : PySem.W.Frag} {mg : Str → Option Value} {base : Heap} (G : GG P K mg) : FnOk P w K mg base (L2.CX P w) 7 G.f_worth G.fd_worth ["entry", "limit", "count"] (spD ⟨K, mg⟩ 3 φ_worth) :=
  fn_dataD (K := K) (k := 6) G.F_worth sc_worth fun cdv A outer s H E B hW hr tk hp => by
    have hu := hr.units
    have hu1 := hr.units1
    have nd := sc_worth.nd
    exact (ss_cons (s_set (ps_set (i := 3) nd rfl (Or.inl rfl) (d_call tk (ok_need_entry G) (hr.mono (by decide)) (by rfl) G.g_need_entry G.F_need_entry.kp G.b_need_entry (a_cons (dv 0) a_nil) rfl (eCons_len (fun _ _ _ _ h => eNil_len h)))))
    (ss_cons (s_drop (d_call tk (ok_need_limit G) (hr.mono (by decide)) (by rfl) G.g_need_limit G.F_need_limit.kp G.b_need_limit (a_cons (dv 1) a_nil) rfl (eCons_len (fun _ _ _ _ h => eNil_len h))))
    (ss_cons (s_drop (d_call tk (ok_need_count G) (hr.mono (by decide)) (by rfl) G.g_need_count G.F_need_count.kp G.b_need_count (a_cons (dv 2) (a_cons (dv 1) a_nil)) rfl (eCons_len (eCons_len (fun _ _ _ _ h => eNil_len h)))))
    (ss_one (s_ret (d_call0 (ok_worth_in G) (hr.mono (by decide)) (by rfl) G.g_worth_in G.F_worth_in.kp G.b_worth_in (a_cons (dv 3) (a_cons (dv 1) (a_cons (dv 2) a_nil))) rfl (eCons_len (eCons_len (eCons_len (fun _ _ _ _ h => eNil_len h))))))))))
theorem ok__law_pen {P : Program} {w : World} {K : PySem.W.Frag} {mg : Str → Option Value} {base : Heap} (G : GG P K mg) : FnOk P w K mg base (L2.CX P w) 1 G.f__law_pen G.fd__law_pen ["script"] (spD ⟨K, mg⟩ 1 φ__law_pen) :=
  fn_data (K := ⟨K, mg⟩) (k := 0) G.F__law_pen sc__law_pen fun cdv A outer s H E B hW hr tk hp => by
    have hu := hr.units
    have hu1 := hr.units1
    have nd := sc__law_pen.nd
    exact (ss_one (s_ret (d_mu (n_lst (a_cons (n_d (n_lc rfl nd (i_seq rfl (d_slice rfl (bv 0) po_no (po_so d_int))) (blkOk_by (own := [("cell", 1)]) (by kernel_rfl)) (fun _ _ _ _ _ => (gn 1 nd)) (fun _ _ _ _ _ => ts_nil) (fun _ _ _ _ _ => (c_int G.z_int (ab_cons (bv 1) ab_nil))) (by decide))) (a_cons d_int (a_cons d_int a_nil)))))))
theorem ok__law_draw {P : Program} {w : World} {K : PySem.W.Frag} {mg : Str → Option Value} {base : Heap} (G : GG P K mg) : FnOk P w K mg base (L2.CX P w) 1 G.f__law_draw G.fd__law_draw ["pen", "many"] (spD ⟨K, mg⟩ 2 φ__law_draw) :=
  fn_data (K := ⟨K, mg⟩) (k := 0) G.F__law_draw sc__law_draw fun cdv A outer s H E B hW hr tk hp => by
    have hu := hr.units
    have hu1 := hr.units1
    have nd := sc__law_draw.nd
    exact (ss_cons (s_if (q_cmp k_gt (d_b (c_ix (bv 0) (d_b d_int))) (d_b d_int)) (ss_cons (s_set (ps_set (i := 2) nd rfl (Or.inl rfl) (c_int G.z_int (ab_cons (d_b (c_ix (bv 0) (d_b d_int))) ab_nil))))
    (ss_cons (s_storeA (c_fdiv (bv 2) (bv 1)) (dv 0) d_int)
    (ss_one (s_ret (c_mod (d_b (c_int G.z_int (ab_cons (bv 2) ab_nil))) (bv 1)))))) ss_nil)
    (ss_cons (s_set (ps_set (i := 3) nd rfl (Or.inl rfl) (c_ix (bv 0) (d_b d_int))))
    (ss_cons (s_storeA (c_add (bv 3) (d_b d_int)) (dv 0) d_int)
    (ss_cons (s_set (ps_set (i := 4) nd rfl (Or.inl rfl) (c_add (d_b (c_mul (d_b d_int) (bv 3))) (d_b d_int))))
    (ss_cons (s_if (q_cmp (k_ne hu) (d_b (c_ix (bv 0) (d_b d_int))) (d_b (n_d (n_lst a_nil)))) (ss_one (s_set (ps_set (i := 4) nd rfl (Or.inl rfl) (c_ix (d_b (c_ix (bv 0) (d_b d_int))) (d_b (c_mod (d_b (c_int G.z_int (ab_cons (bv 3) ab_nil))) (d_b (c_len G.z_len (ab_cons (d_b (c_ix (bv 0) (d_b d_int))) ab_nil))))))))) ss_nil)
    (ss_cons (s_if (w_and (q_cmp k_lt (bv 3) (d_b (c_len G.z_len (ab_cons (d_b (c_ix (bv 0) (d_b d_int))) ab_nil)))) (w_and1 (q_cmp k_ge (d_b (c_abs G.z_abs (ab_cons (bv 4) ab_nil))) (d_b (c_pow (d_b d_int) (d_b d_int)))))).pt (ss_cons (s_set (ps_set (i := 2) nd rfl (Or.inl rfl) (c_add (d_b (c_mul (d_b d_int) (d_b (c_sub (d_b (c_abs G.z_abs (ab_cons (bv 4) ab_nil))) (d_b (c_pow (d_b d_int) (d_b d_int))))))) (d_b (c_int G.z_int (ab_cons (d_b (c_cmp k_lt (bv 4) (d_b d_int))) ab_nil))))))
    (ss_cons (s_storeA (c_fdiv (d_b (c_int G.z_int (ab_cons (bv 2) ab_nil))) (bv 1)) (dv 0) d_int)
    (ss_one (s_ret (c_mod (d_b (c_int G.z_int (ab_cons (bv 2) ab_nil))) (bv 1)))))) ss_nil)
    (ss_cons (s_set (ps_set (i := 5) nd rfl (Or.inl rfl) (c_mod (d_b (c_int G.z_int (ab_cons (d_b (c_pow (d_b (c_add (d_b (c_add (d_b (c_mod (d_b (c_int G.z_int (ab_cons (bv 4) ab_nil))) (d_b d_int))) (d_b (c_mul (d_b d_int) (bv 3))))) (d_b d_int))) (d_b d_int))) ab_nil))) (d_b d_int))))
    (ss_cons (s_set (ps_set (i := 5) nd rfl (Or.inl rfl) (c_mod (d_b (c_int G.z_int (ab_cons (d_b (c_pow (d_b (c_add (d_b (c_add (d_b (c_mul (bv 5) (d_b (c_add (d_b (c_mul (d_b d_int) (bv 3))) (d_b d_int))))) (d_b (c_mul (d_b (c_mul (d_b d_int) (bv 3))) (bv 3))))) (d_b d_int))) (d_b d_int))) ab_nil))) (d_b d_int))))
    (ss_one (s_ret (c_mod (d_b (c_int G.z_int (ab_cons (d_b (c_fdiv (bv 5) (d_b d_int))) ab_nil))) (bv 1))))))))))))
theorem ok__law_pick {P : Program} {w : World} {K : PySem.W.Frag} {mg : Str → Option Value} {base : Heap} (G : GG P K mg) : FnOk P w K mg base (L2.CX P w) 2 G.f__law_pick G.fd__law_pick ["pen", "some"] (spD ⟨K, mg⟩ 2 φ__law_pick) :=
  fn_data (K := ⟨K, mg⟩) (k := 1) G.F__law_pick sc__law_pick fun cdv A outer s H E B hW hr tk hp => by
    have hu := hr.units
    have hu1 := hr.units1
    have nd := sc__law_pick.nd
    exact (ss_one (s_ret (c_ix (bv 1) (d_b (d_call0 (ok__law_draw G) (hr.mono (by decide)) (by rfl) G.g__law_draw G.F__law_draw.kp G.b__law_draw (a_cons (dv 0) (a_cons (c_len G.z_len (ab_cons (bv 1) ab_nil)) a_nil)) rfl (eCons_len (eCons_len (fun _ _ _ _ h => eNil_len h))))))))
theorem ok__law_heard_one {P : Program} {w : World} {K : PySem.W.Frag} {mg : Str → Option Value} {base : Heap} (G : GG P K mg) : FnOk P w K mg base (L2.CX P w) 1 G.f__law_heard_one G.fd__law_heard_one ["caught"] (spD ⟨K, mg⟩ 1 φ__law_heard_one) :=
  fn_data (K := ⟨K, mg⟩) (k := 0) G.F__law_heard_one sc__law_heard_one fun cdv A outer s H E B hW hr tk hp => by
    have hu := hr.units
    have hu1 := hr.units1
    have nd := sc__law_heard_one.nd
    exact (ss_cons (s_set (ps_set (i := 1) nd rfl (Or.inl rfl) (n_d (n_lst (a_cons d_str (a_cons d_str (a_cons d_str (a_cons d_str (a_cons d_str (a_cons d_str (a_cons d_str (a_cons d_str a_nil))))))))))))
    (ss_cons (s_set (ps_set (i := 2) nd rfl (Or.inl rfl) (n_d (n_lst (a_cons (d_isX rfl (is_BadName G) (by rfl) G.z_isinstance (by decide +kernel) (by rfl) G.gc_BadName (dv 0)) (a_cons (d_isX rfl (is_BadNumber G) (by rfl) G.z_isinstance (by decide +kernel) (by rfl) G.gc_BadNumber (dv 0)) (a_cons (d_isX rfl (is_BadCell G) (by rfl) G.z_isinstance (by decide +kernel) (by rfl) G.gc_BadCell (dv 0)) (a_cons (d_isX rfl (is_BadSide G) (by rfl) G.z_isinstance (by decide +kernel) (by rfl) G.gc_BadSide (dv 0)) a_nil))))))))
    (ss_cons (s_set (ps_set (i := 2) nd rfl (Or.inl rfl) (n_d (n_catB rfl (bv 2) (n_lst (a_cons (d_isX rfl (is_BadLetter G) (by rfl) G.z_isinstance (by decide +kernel) (by rfl) G.gc_BadLetter (dv 0)) (a_cons (d_isX rfl (is_BadPly G) (by rfl) G.z_isinstance (by decide +kernel) (by rfl) G.gc_BadPly (dv 0)) (a_cons (d_isX rfl (is_BadKey G) (by rfl) G.z_isinstance (by decide +kernel) (by rfl) G.gc_BadKey (dv 0)) (a_cons (d_isX rfl (is_BadEntry G) (by rfl) G.z_isinstance (by decide +kernel) (by rfl) G.gc_BadEntry (dv 0)) a_nil)))))))))
    (ss_cons (s_if (q_in hu1 (d_b d_bl) (bv 2)) (ss_one (s_ret (d_tup (a_cons (c_ix (bv 1) (d_b (d_idx rfl hu1 (bv 2) (d_b d_bl)))) (a_cons (d_fld rfl (fd_value G) (dv 0)) a_nil))))) ss_nil)
    (ss_cons (s_set (ps_set (i := 1) nd rfl (Or.inl rfl) (n_d (n_lst (a_cons d_str (a_cons d_str (a_cons d_str (a_cons d_str (a_cons d_str (a_cons d_str (a_cons d_str (a_cons d_str (a_cons d_str (a_cons d_str a_nil))))))))))))))
    (ss_cons (s_set (ps_set (i := 2) nd rfl (Or.inl rfl) (n_d (n_lst (a_cons (d_isX rfl (is_BadGame G) (by rfl) G.z_isinstance (by decide +kernel) (by rfl) G.gc_BadGame (dv 0)) (a_cons (d_isX rfl (is_BadStanding G) (by rfl) G.z_isinstance (by decide +kernel) (by rfl) G.gc_BadStanding (dv 0)) (a_cons (d_isX rfl (is_BadClass G) (by rfl) G.z_isinstance (by decide +kernel) (by rfl) G.gc_BadClass (dv 0)) (a_cons (d_isX rfl (is_BadStair G) (by rfl) G.z_isinstance (by decide +kernel) (by rfl) G.gc_BadStair (dv 0)) a_nil))))))))
    (ss_cons (s_set (ps_set (i := 2) nd rfl (Or.inl rfl) (n_d (n_catB rfl (bv 2) (n_lst (a_cons (d_isX rfl (is_BadTable G) (by rfl) G.z_isinstance (by decide +kernel) (by rfl) G.gc_BadTable (dv 0)) (a_cons (d_isX rfl (is_BadBook G) (by rfl) G.z_isinstance (by decide +kernel) (by rfl) G.gc_BadBook (dv 0)) (a_cons (d_isX rfl (is_BadValue G) (by rfl) G.z_isinstance (by decide +kernel) (by rfl) G.gc_BadValue (dv 0)) (a_cons (d_isX rfl (is_BadPaper G) (by rfl) G.z_isinstance (by decide +kernel) (by rfl) G.gc_BadPaper (dv 0)) a_nil)))))))))
    (ss_cons (s_set (ps_set (i := 2) nd rfl (Or.inl rfl) (n_d (n_catB rfl (bv 2) (n_lst (a_cons (d_isX rfl (is_Unlike G) (by rfl) G.z_isinstance (by decide +kernel) (by rfl) G.gc_Unlike (dv 0)) (a_cons (d_isX rfl (is_Nothing G) (by rfl) G.z_isinstance (by decide +kernel) (by rfl) G.gc_Nothing (dv 0)) a_nil)))))))
    (ss_cons (s_if (q_in hu1 (d_b d_bl) (bv 2)) (ss_one (s_ret (d_tup (a_cons (c_ix (bv 1) (d_b (d_idx rfl hu1 (bv 2) (d_b d_bl)))) (a_cons (d_fld rfl (fd_part G) (dv 0)) a_nil))))) ss_nil)
    (ss_cons s_stuck
    (ss_one (s_ret (d_if (q_tru (d_b (d_isX rfl (is_BadWay G) (by rfl) G.z_isinstance (by decide +kernel) (by rfl) G.gc_BadWay (dv 0)))) (d_tup (a_cons d_str (a_cons (d_fld rfl (fd_name G) (dv 0)) a_nil))) (d_tup (a_cons d_str (a_cons (d_fld rfl (fd_word G) (dv 0)) a_nil))))))))))))))))
theorem heard_ok (f0 : Addr) (act : Sto → Res D) (S S1 : Sto) (d : D) (h : act S = .ok d S1) : runF 4 b__law_heard f0 act S = .ok (.lst [d]) S1 := by
  unfold runF b__law_heard
  rw [seq_nx (e1 := [some (.fn f0), some (.sh .non), some (.sh .non), none]) (S1 := S) rfl]
  rw [seq_nx (e1 := [some (.fn f0), some (.sh d), some (.sh .non), none]) (S1 := S1) (try_ok rfl (by unfold sSet; rw [ask_at, h]; rfl))]
  rfl
theorem heard_BadNumber (f0 : Addr) (act : Sto → Res D) (S S1 : Sto) (d0 : D) (h : act S = .ex ⟨"BadNumber", ["value"], [d0]⟩ S1) : runF 4 b__law_heard f0 act S = .ok (.tup [.str "number", d0]) S1 := by
  unfold runF b__law_heard
  rw [seq_nx (e1 := [some (.fn f0), some (.sh .non), some (.sh .non), none]) (S1 := S) rfl]
  have hb : sSet 1 (eAsk 0 f0 act) [some (.fn f0), some (.sh .non), some (.sh .non), none] S = .ok (.rs ⟨"BadNumber", ["value"], [d0]⟩ [some (.fn f0), some (.sh .non), some (.sh .non), none]) S1 := by
    unfold sSet
    rw [ask_at, h]
    rfl
  rw [seq_nx (try_ex (e2 := [some (.fn f0), some (.sh .non), some (.sh (.exn "BadNumber" ["value"] [d0])), some (.sh (.exn "BadNumber" ["value"] [d0]))]) (S2 := S1) rfl hb rfl rfl)]
  rfl
theorem heard_BadEntry (f0 : Addr) (act : Sto → Res D) (S S1 : Sto) (d0 : D) (h : act S = .ex ⟨"BadEntry", ["value"], [d0]⟩ S1) : runF 4 b__law_heard f0 act S = .ok (.tup [.str "entry", d0]) S1 := by
  unfold runF b__law_heard
  rw [seq_nx (e1 := [some (.fn f0), some (.sh .non), some (.sh .non), none]) (S1 := S) rfl]
  have hb : sSet 1 (eAsk 0 f0 act) [some (.fn f0), some (.sh .non), some (.sh .non), none] S = .ok (.rs ⟨"BadEntry", ["value"], [d0]⟩ [some (.fn f0), some (.sh .non), some (.sh .non), none]) S1 := by
    unfold sSet
    rw [ask_at, h]
    rfl
  rw [seq_nx (try_ex (e2 := [some (.fn f0), some (.sh .non), some (.sh (.exn "BadEntry" ["value"] [d0])), some (.sh (.exn "BadEntry" ["value"] [d0]))]) (S2 := S1) rfl hb rfl rfl)]
  rfl
theorem psi__law_heard (f0 : Addr) (act : Sto → Res D) (S : Sto) (hz : ψ__law_heard act S ≠ .stuck) : runF 4 b__law_heard f0 act S = ψ__law_heard act S := by
  unfold ψ__law_heard at hz ⊢
  cases h : act S with
  | stuck => rw [h] at hz; exact absurd rfl hz
  | ok d S1 => exact heard_ok f0 act S S1 d h
  | ex x S1 =>
    rw [h] at hz
    obtain ⟨c, ns, xs⟩ := x
    have hz : psiX c ns xs S1 ≠ .stuck := hz
    show _ = psiX c ns xs S1
    unfold psiX at hz ⊢
    by_cases hc : c = "BadNumber" ∧ ns = (["value"] : List Str)
    · rw [if_pos hc] at hz ⊢
      obtain ⟨rfl, rfl⟩ := hc
      match xs, hz, h with
      | [d0], _, h => exact heard_BadNumber f0 act S S1 d0 h
      | [], hz, _ => exact absurd rfl hz
      | _ :: _ :: _, hz, _ => exact absurd rfl hz
    rw [if_neg hc] at hz ⊢
    by_cases hc : c = "BadEntry" ∧ ns = (["value"] : List Str)
    · rw [if_pos hc] at hz ⊢
      obtain ⟨rfl, rfl⟩ := hc
      match xs, hz, h with
      | [d0], _, h => exact heard_BadEntry f0 act S S1 d0 h
      | [], hz, _ => exact absurd rfl hz
      | _ :: _ :: _, hz, _ => exact absurd rfl hz
    rw [if_neg hc] at hz ⊢
    exact absurd rfl hz
theorem hd__law_heard {P : Program} {w : World} {K : PySem.W.Frag} {mg : Str → Option Value} {base : Heap} (G : GG P K mg) : HeardR P w K mg base 7 "_law_heard" "ask" st__law_heard N__law_heard G.f__law_heard b__law_heard :=
  fun cdv A outer s H E B fa act hW hr tk hp hask => by
    have hu := hr.units
    have hu1 := hr.units1
    have nd := sc__law_heard.nd
    exact (ss_cons (s_asgT (ps_asg (d_tup (a_cons d_non (a_cons d_non a_nil))) (g_tup rfl rfl (gs_cons (gn 1 nd) (gs_cons (gn 2 nd) gs_nil)))))
    (ss_cons (s_try (i := 3) rfl rfl rfl nd rfl rfl ⟨by rfl, by decide, Or.inl G.gc_CountError⟩ rfl (fit_G G) (fun b W pn xe sb tk2 _ => ss_one (s_set (ps_set (i := 1) nd rfl (Or.inl rfl) (hask b W pn xe _ _ sb tk2)))) (fun a pn => (ss_one (s_set (ps_set (i := 2) nd rfl (Or.inl rfl) (dv 3))))))
    (ss_cons (s_if (q_cmp k_is (bv 2) (d_b d_non)) (ss_one (s_ret (n_d (n_lst (a_cons (dv 1) a_nil))))) ss_nil)
    (ss_cons (s_if (q_tru (d_b (d_isX rfl (is_TooMany G) (by rfl) G.z_isinstance (by decide +kernel) (by rfl) G.gc_TooMany (dv 2)))) (ss_one (s_ret (d_tup (a_cons d_str (a_cons (d_fld rfl (fd_what G) (dv 2)) (a_cons (d_fld rfl (fd_most G) (dv 2)) a_nil)))))) ss_nil)
    (ss_cons (s_if (q_tru (d_b (d_isX rfl (is_BadText G) (by rfl) G.z_isinstance (by decide +kernel) (by rfl) G.gc_BadText (dv 2)))) (ss_one (s_ret (d_tup (a_cons d_str (a_cons (d_fld rfl (fd_line G) (dv 2)) (a_cons (d_fld rfl (fd_word G) (dv 2)) a_nil)))))) ss_nil)
    (ss_one (s_ret (d_call0 (ok__law_heard_one G) (hr.mono (by decide)) (by rfl) G.g__law_heard_one G.F__law_heard_one.kp G.b__law_heard_one (a_cons (dv 2) a_nil) rfl (eCons_len (fun _ _ _ _ h => eNil_len h))))))))))
theorem ok__law_number {P : Program} {w : World} {K : PySem.W.Frag} {mg : Str → Option Value} {base : Heap} (G : GG P K mg) : FnOk P w K mg base (L2.CX P w) 1 G.f__law_number G.fd__law_number ["stair", "limit"] (spD ⟨K, mg⟩ 2 φ__law_number) :=
  fn_data (K := ⟨K, mg⟩) (k := 0) G.F__law_number sc__law_number fun cdv A outer s H E B hW hr tk hp => by
    have hu := hr.units
    have hu1 := hr.units1
    have nd := sc__law_number.nd
    exact (ss_one (s_ret (c_ix (d_b (n_d (n_cat (n_lst (a_cons d_non a_nil)) (n_lc rfl nd (i_seq rfl (dv 0)) (blkOk_by (own := [("least", 2), ("number", 3)]) (by kernel_rfl)) (fun _ _ _ _ _ => (g_tup rfl rfl (gs_cons (gn 2 nd) (gs_cons (gn 3 nd) gs_nil)))) (fun _ _ _ _ _ => ts_one (q_cmp k_le (bv 2) (bv 1))) (fun _ _ _ _ _ => (dv 3)) (by decide))))) (d_b (d_neg (d_b d_int))))))
theorem ok__law_by_limits {P : Program} {w : World} {K : PySem.W.Frag} {mg : Str → Option Value} {base : Heap} (G : GG P K mg) : FnOk P w K mg base (L2.CX P w) 1 G.f__law_by_limits G.fd__law_by_limits ["pairs", "most"] (spD ⟨K, mg⟩ 2 φ__law_by_limits) :=
  fn_data (K := ⟨K, mg⟩) (k := 0) G.F__law_by_limits sc__law_by_limits fun cdv A outer s H E B hW hr tk hp => by
    have hu := hr.units
    have hu1 := hr.units1
    have nd := sc__law_by_limits.nd
    exact (ss_cons (s_new (ps_set (i := 2) nd rfl (Or.inl rfl) (n_lst a_nil)))
    (ss_cons (s_for hp rfl (i_range2 (by rfl) G.z_range d_int (c_add (bv 1) (d_b d_int))) (gn 3 nd) (ss_cons (s_setN (s_newLc (i := 4) rfl nd rfl rfl (sw_true rfl rfl rfl (by decide +kernel)) (i_seq rfl (dv 0)) (blkOk_by (own := [("first", 5), ("number", 6)]) (by kernel_rfl)) (fun _ _ _ _ _ => (g_tup rfl rfl (gs_cons (gn 5 nd) (gs_cons (gn 6 nd) gs_nil)))) (fun _ _ _ _ _ => ts_one (w_and (q_cmp k_le (bv 5) (bv 3)) (w_and1 (q_cmp k_le (bv 6) (bv 3)))).pt) (fun _ _ _ _ _ => (dv 6)) (by decide)))
    (ss_one (s_appA (dvv 2) (d_if (q_cmp (k_ne hu) (bv 4) (d_b (n_d (n_lst a_nil)))) (c_min1 rfl hu G.z_min (ab_cons (bv 4) ab_nil)) d_non)))))
    (ss_frz (i := 2) (ss_one (s_ret (dv 2))))))
theorem ok__law_of_limits {P : Program} {w : World} {K : PySem.W.Frag} {mg : Str → Option Value} {base : Heap} (G : GG P K mg) : FnOk P w K mg base (L2.CX P w) 1 G.f__law_of_limits G.fd__law_of_limits ["row"] (spD ⟨K, mg⟩ 1 φ__law_of_limits) :=
  fn_data (K := ⟨K, mg⟩) (k := 0) G.F__law_of_limits sc__law_of_limits fun cdv A outer s H E B hW hr tk hp => by
    have hu := hr.units
    have hu1 := hr.units1
    have nd := sc__law_of_limits.nd
    exact (ss_cons (s_new (ps_set (i := 1) nd rfl (Or.inl rfl) (n_lst a_nil)))
    (ss_cons (s_for hp rfl (i_seq rfl (n_d (n_listEn rfl rfl (by rfl) G.z_list (by rfl) G.z_enumerate (d_b (n_d (n_cat (n_lst (a_cons d_non a_nil)) (c_list G.z_list (ab_cons (bv 0) ab_nil)))))))) (g_tup rfl rfl (gs_cons (gn 2 nd) (gs_cons (gn 3 nd) gs_nil))) (ss_one (s_if (w_and (q_cmp k_isnot (bv 3) (d_b d_non)) (w_and (q_cmp k_le (bv 3) (bv 2)) (w_and1 (w_or (q_cmp (k_eq hu) (bv 1) (d_b (n_d (n_lst a_nil)))) (w_or1 (q_cmp k_lt (bv 3) (d_b (c_ix (d_b (c_ix (bv 1) (d_b (d_neg (d_b d_int))))) (d_b d_int)))))).pt))).pt (ss_one (s_appA (dvv 1) (d_tup (a_cons (dv 2) (a_cons (dv 3) a_nil))))) ss_nil)))
    (ss_one (s_ret (c_tuple G.z_tuple (ab_cons (bv 1) ab_nil))))))
theorem ok__law_pairs {P : Program} {w : World} {K : PySem.W.Frag} {mg : Str → Option Value} {base : Heap} (G : GG P K mg) : FnOk P w K mg base (L2.CX P w) 3 G.f__law_pairs G.fd__law_pairs ["pen", "most"] (spD ⟨K, mg⟩ 2 φ__law_pairs) :=
  fn_data (K := ⟨K, mg⟩) (k := 2) G.F__law_pairs sc__law_pairs fun cdv A outer s H E B hW hr tk hp => by
    have hu := hr.units
    have hu1 := hr.units1
    have nd := sc__law_pairs.nd
    exact (ss_one (s_ret (n_d (n_lc rfl nd (i_range1 (by rfl) G.z_range (d_call0 (ok__law_pick G) (hr.mono (by decide)) (by rfl) G.g__law_pick G.F__law_pick.kp G.b__law_pick (a_cons (dv 0) (a_cons (n_d (n_lst (a_cons d_int (a_cons d_int (a_cons d_int (a_cons d_int (a_cons d_int (a_cons d_int (a_cons d_int a_nil))))))))) a_nil)) rfl (eCons_len (eCons_len (fun _ _ _ _ h => eNil_len h))))) (blkOk_by (own := [("turn", 2)]) (by kernel_rfl)) (fun _ _ _ _ _ => (gn 2 nd)) (fun _ _ _ _ _ => ts_nil) (fun _ _ _ _ _ => (d_tup (a_cons (c_add (d_b d_int) (d_b (d_call0 (ok__law_draw G) (hr.mono (by decide)) (by rfl) G.g__law_draw G.F__law_draw.kp G.b__law_draw (a_cons (dv 0) (a_cons (dv 1) a_nil)) rfl (eCons_len (eCons_len (fun _ _ _ _ h => eNil_len h)))))) (a_cons (d_call0 (ok__law_draw G) (hr.mono (by decide)) (by rfl) G.g__law_draw G.F__law_draw.kp G.b__law_draw (a_cons (dv 0) (a_cons (c_add (bv 1) (d_b d_int)) a_nil)) rfl (eCons_len (eCons_len (fun _ _ _ _ h => eNil_len h)))) a_nil)))) (by decide)))))
theorem ok__law_most {P : Program} {w : World} {K : PySem.W.Frag} {mg : Str → Option Value} {base : Heap} (G : GG P K mg) : FnOk P w K mg base (L2.CX P w) 1 G.f__law_most G.fd__law_most ["stairs"] (spD ⟨K, mg⟩ 1 φ__law_most) :=
  fn_data (K := ⟨K, mg⟩) (k := 0) G.F__law_most sc__law_most fun cdv A outer s H E B hW hr tk hp => by
    have hu := hr.units
    have hu1 := hr.units1
    have nd := sc__law_most.nd
    exact (ss_one (s_ret (c_add (d_b d_int) (d_b (c_max1 rfl hu G.z_max (ab_cons (d_b (n_d (n_cat (n_lst (a_cons d_int a_nil)) (n_lc rfl nd (i_seq rfl (dv 0)) (blkOk_by (own := [("stair", 1)]) (by kernel_rfl)) (fun _ _ _ _ _ => (gn 1 nd)) (fun _ _ _ _ _ => ts_one (q_cmp k_gt (d_b (c_len G.z_len (ab_cons (bv 1) ab_nil))) (d_b d_int))) (fun _ _ _ _ _ => (c_max1 rfl hu G.z_max (ab_cons (d_b (n_d (n_lc rfl nd (i_seq rfl (dv 1)) (blkOk_by (own := [("corner", 2)]) (by kernel_rfl)) (fun _ _ _ _ _ => (gn 2 nd)) (fun _ _ _ _ _ => ts_nil) (fun _ _ _ _ _ => (c_max1 rfl hu G.z_max (ab_cons (bv 2) ab_nil))) (by decide)))) ab_nil))) (by decide))))) ab_nil))))))
theorem ok__law_stair {P : Program} {w : World} {K : PySem.W.Frag} {mg : Str → Option Value} {base : Heap} (G : GG P K mg) : FnOk P w K mg base (L2.CX P w) 4 G.f__law_stair G.fd__law_stair ["pen", "most"] (spD ⟨K, mg⟩ 2 φ__law_stair) :=
  fn_data (K := ⟨K, mg⟩) (k := 3) G.F__law_stair sc__law_stair fun cdv A outer s H E B hW hr tk hp => by
    have hu := hr.units
    have hu1 := hr.units1
    have nd := sc__law_stair.nd
    exact (ss_cons (s_set (ps_set (i := 2) nd rfl (Or.inl rfl) (d_call0 (ok__law_pairs G) (hr.mono (by decide)) (by rfl) G.g__law_pairs G.F__law_pairs.kp G.b__law_pairs (a_cons (dv 0) (a_cons (dv 1) a_nil)) rfl (eCons_len (eCons_len (fun _ _ _ _ h => eNil_len h))))))
    (ss_one (s_ret (d_call0 (ok__law_of_limits G) (hr.mono (by decide)) (by rfl) G.g__law_of_limits G.F__law_of_limits.kp G.b__law_of_limits (a_cons (d_call0 (ok__law_by_limits G) (hr.mono (by decide)) (by rfl) G.g__law_by_limits G.F__law_by_limits.kp G.b__law_by_limits (a_cons (dv 2) (a_cons (d_call0 (ok__law_most G) (hr.mono (by decide)) (by rfl) G.g__law_most G.F__law_most.kp G.b__law_most (a_cons (n_d (n_lst (a_cons (dv 2) a_nil))) a_nil) rfl (eCons_len (fun _ _ _ _ h => eNil_len h))) a_nil)) rfl (eCons_len (eCons_len (fun _ _ _ _ h => eNil_len h)))) a_nil) rfl (eCons_len (fun _ _ _ _ h => eNil_len h))))))
theorem ok__law_some_stair {P : Program} {w : World} {K : PySem.W.Frag} {mg : Str → Option Value} {base : Heap} (G : GG P K mg) : FnOk P w K mg base (L2.CX P w) 5 G.f__law_some_stair G.fd__law_some_stair ["pen", "most"] (spD ⟨K, mg⟩ 2 φ__law_some_stair) :=
  fn_data (K := ⟨K, mg⟩) (k := 4) G.F__law_some_stair sc__law_some_stair fun cdv A outer s H E B hW hr tk hp => by
    have hu := hr.units
    have hu1 := hr.units1
    have nd := sc__law_some_stair.nd
    exact (ss_cons (s_set (ps_set (i := 2) nd rfl (Or.inl rfl) (d_call0 (ok__law_stair G) (hr.mono (by decide)) (by rfl) G.g__law_stair G.F__law_stair.kp G.b__law_stair (a_cons (dv 0) (a_cons (dv 1) a_nil)) rfl (eCons_len (eCons_len (fun _ _ _ _ h => eNil_len h))))))
    (ss_one (s_ret (d_if (q_cmp (k_ne hu) (bv 2) (d_b (d_tup a_nil))) (dv 2) (d_tup (a_cons (d_tup (a_cons (c_add (d_b d_int) (d_b (d_call0 (ok__law_draw G) (hr.mono (by decide)) (by rfl) G.g__law_draw G.F__law_draw.kp G.b__law_draw (a_cons (dv 0) (a_cons (dv 1) a_nil)) rfl (eCons_len (eCons_len (fun _ _ _ _ h => eNil_len h)))))) (a_cons d_int a_nil))) a_nil))))))
theorem ok__law_own_worth {P : Program} {w : World} {K : PySem.W.Frag} {mg : Str → Option Value} {base : Heap} (G : GG P K mg) : FnOk P w K mg base (L2.CX P w) 2 G.f__law_own_worth G.fd__law_own_worth ["entry", "limit", "count"] (spD ⟨K, mg⟩ 3 φ__law_own_worth) :=
  fn_data (K := ⟨K, mg⟩) (k := 1) G.F__law_own_worth sc__law_own_worth fun cdv A outer s H E B hW hr tk hp => by
    have hu := hr.units
    have hu1 := hr.units1
    have nd := sc__law_own_worth.nd
    exact (ss_cons (s_set (ps_set (i := 3) nd rfl (Or.inl rfl) (d_call0 (ok__law_number G) (hr.mono (by decide)) (by rfl) G.g__law_number G.F__law_number.kp G.b__law_number (a_cons (c_ix (bv 0) (d_b d_int)) (a_cons (dv 1) a_nil)) rfl (eCons_len (eCons_len (fun _ _ _ _ h => eNil_len h))))))
    (ss_one (s_ret (d_if (w_or (q_cmp k_is (bv 3) (d_b d_non)) (w_or1 (q_cmp k_gt (d_b (c_add (bv 3) (bv 2))) (bv 1)))).pt d_str (c_ix (bv 0) (d_b d_int))))))
theorem ok_law {P : Program} {w : World} {K : PySem.W.Frag} {mg : Str → Option Value} {base : Heap} (G : GG P K mg) {fl c Pt : Addr} {oc kV doc pm ct : Value} {od an : Option Addr} {osl : Array (Option Value)}
    (lk : K.lookup fl = some ⟨oc, od, .func (PySem.W.fnOf "law" "law" (defArgs st_law) (defBody st_law) (defScope st_law) .none kV doc pm an (.ref c) ct), osl⟩) (hcg : PySem.W.codeIn K (.ref c) "law" = true) (TBl : LamX.TabB base mg c Pt) (hsm : SMb base) :
    FnTop P w K mg base fl (PySem.W.fnOf "law" "law" (defArgs st_law) (defBody st_law) (defScope st_law) .none kV doc pm an (.ref c) ct) ["script"] (spT [Pt] (spD ⟨K, mg⟩ 1 φ_law)) :=
  fn_top (K := ⟨K, mg⟩) (k := 9) lk hcg sc_law ⟨rfl, by decide, by decide⟩ fun s H E B hW ht hr tk hp => by
    have htab := ht Pt (List.mem_singleton.mpr rfl)
    have hu := hr.units
    have hu1 := hr.units1
    have nd := sc_law.nd
    exact (ss_cons (s_set (ps_set (i := 1) nd rfl (Or.inl rfl) (d_call0 (ok__law_pen G) (hr.mono (by decide)) (by rfl) G.g__law_pen G.F__law_pen.kp G.b__law_pen (a_cons (dv 0) a_nil) rfl (eCons_len (fun _ _ _ _ h => eNil_len h)))))
    (ss_cons (s_for hp rfl (i_range1 (by rfl) G.z_range d_int) (gn 2 nd) (ss_cons (s_set (ps_set (i := 3) nd rfl (Or.inl rfl) (d_call0 (ok__law_pick G) (hr.mono (by decide)) (by rfl) G.g__law_pick G.F__law_pick.kp G.b__law_pick (a_cons (dv 1) (a_cons (n_d (n_lst (a_cons d_str (a_cons d_str (a_cons d_str a_nil))))) a_nil)) rfl (eCons_len (eCons_len (fun _ _ _ _ h => eNil_len h))))))
    (ss_cons (s_set (ps_set (i := 4) nd rfl (Or.inl rfl) (d_if (q_cmp (k_eq hu) (bv 3) (d_b d_str)) (d_tup a_nil) (d_call0 (ok__law_some_stair G) (hr.mono (by decide)) (by rfl) G.g__law_some_stair G.F__law_some_stair.kp G.b__law_some_stair (a_cons (dv 1) (a_cons d_int a_nil)) rfl (eCons_len (eCons_len (fun _ _ _ _ h => eNil_len h)))))))
    (ss_cons (s_set (ps_set (i := 5) nd rfl (Or.inr rfl) (d_tup (a_cons (dv 3) (a_cons (dv 4) a_nil)))))
    (ss_cons (s_if (w_or (q_cmp k_isnotB (d_b (d_call0 (ok_is_entry G) (hr.mono (by decide)) (by rfl) G.g_is_entry G.F_is_entry.kp G.b_is_entry (a_cons (dv 5) a_nil) rfl (eCons_len (fun _ _ _ _ h => eNil_len h)))) (d_b d_bl)) (w_or1 (q_cmp k_isnotB (d_b (d_callK0 (π := [0]) (ok_is_entry G) (hr.mono (by decide)) (by rfl) G.g_is_entry G.F_is_entry.kp G.kb_is_entry_0_value (kw_cons (n_d (n_lst (a_cons (dv 3) (a_cons (n_d (n_lc rfl nd (i_seq rfl (dv 4)) (blkOk_by (own := [("corner", 6)]) (by kernel_rfl)) (fun _ _ _ _ _ => (gn 6 nd)) (fun _ _ _ _ _ => ts_nil) (fun _ _ _ _ _ => (n_d (c_list G.z_list (ab_cons (bv 6) ab_nil)))) (by decide))) a_nil)))) kw_nil))) (d_b d_bl)))).pt (ss_one (s_ret d_bl)) ss_nil)
    (ss_cons (s_set (ps_set (i := 7) nd rfl (Or.inr rfl) (d_call0 (ok__law_pick G) (hr.mono (by decide)) (by rfl) G.g__law_pick G.F__law_pick.kp G.b__law_pick (a_cons (dv 1) (a_cons (n_d (n_lst (a_cons (d_tup (a_cons (dv 3) (a_cons d_non a_nil))) (a_cons (d_tup (a_cons (dv 3) (a_cons (d_tup (a_cons (d_tup (a_cons d_int (a_cons d_int a_nil))) a_nil)) a_nil))) (a_cons (d_tup (a_cons (dv 3) a_nil)) (a_cons (d_tup (a_cons (dv 3) (a_cons (dv 4) (a_cons d_int a_nil)))) (a_cons (d_tup (a_cons (d_up (dv 3)) (a_cons (dv 4) a_nil))) (a_cons (d_tup (a_cons (dv 4) (a_cons (dv 3) a_nil))) (a_cons d_non (a_cons d_int (a_cons (dv 3) (a_cons d_dct0 (a_cons (d_tup (a_cons d_non (a_cons (dv 4) a_nil))) (a_cons (d_tup (a_cons (n_d (n_lst (a_cons (dv 3) a_nil))) (a_cons (dv 4) a_nil))) a_nil)))))))))))))) a_nil)) rfl (eCons_len (eCons_len (fun _ _ _ _ h => eNil_len h))))))
    (ss_cons (s_set (ps_set (i := 7) nd rfl (Or.inr rfl) (d_call0 (ok__law_pick G) (hr.mono (by decide)) (by rfl) G.g__law_pick G.F__law_pick.kp G.b__law_pick (a_cons (dv 1) (a_cons (n_d (n_lst (a_cons (dv 7) (a_cons (d_tup (a_cons (dv 3) (a_cons (d_if (q_cmp (k_eq hu) (bv 3) (d_b d_str)) (d_tup (a_cons (d_tup (a_cons d_int (a_cons d_int a_nil))) a_nil)) (d_tup a_nil)) a_nil))) (a_cons (d_tup (a_cons d_str (a_cons (dv 4) a_nil))) (a_cons (d_tup (a_cons (dv 3) (a_cons (d_tup (a_cons d_non a_nil)) a_nil))) (a_cons (d_tup (a_cons (dv 3) (a_cons (d_tup (a_cons (d_tup (a_cons d_bl (a_cons d_int a_nil))) a_nil)) a_nil))) (a_cons (d_tup (a_cons (dv 3) (a_cons (d_tup (a_cons (d_tup (a_cons d_int (a_cons d_int a_nil))) a_nil)) a_nil))) a_nil)))))))) a_nil)) rfl (eCons_len (eCons_len (fun _ _ _ _ h => eNil_len h))))))
    (ss_cons (s_if (q_cmp k_isnotB (d_b (d_call0 (ok_is_entry G) (hr.mono (by decide)) (by rfl) G.g_is_entry G.F_is_entry.kp G.b_is_entry (a_cons (dv 7) a_nil) rfl (eCons_len (fun _ _ _ _ h => eNil_len h)))) (d_b d_bl)) (ss_one (s_ret d_bl)) ss_nil)
    (ss_cons (s_for hp rfl (i_range1 (by rfl) G.z_range d_int) (gn 8 nd) (ss_cons (s_set (ps_set (i := 9) nd rfl (Or.inl rfl) (c_add (d_b d_int) (d_b (d_call0 (ok__law_draw G) (hr.mono (by decide)) (by rfl) G.g__law_draw G.F__law_draw.kp G.b__law_draw (a_cons (dv 1) (a_cons d_int a_nil)) rfl (eCons_len (eCons_len (fun _ _ _ _ h => eNil_len h))))))))
    (ss_cons (s_set (ps_set (i := 10) nd rfl (Or.inl rfl) (d_call0 (ok__law_draw G) (hr.mono (by decide)) (by rfl) G.g__law_draw G.F__law_draw.kp G.b__law_draw (a_cons (dv 1) (a_cons (c_add (bv 9) (d_b d_int)) a_nil)) rfl (eCons_len (eCons_len (fun _ _ _ _ h => eNil_len h))))))
    (ss_one (s_if (w_or (q_cmp (k_ne hu) (d_b (d_call tk (ok_worth G) (hr.mono (by decide)) (by rfl) G.g_worth G.F_worth.kp G.b_worth (a_cons (dv 5) (a_cons (dv 9) (a_cons (dv 10) a_nil))) rfl (eCons_len (eCons_len (eCons_len (fun _ _ _ _ h => eNil_len h)))))) (d_b (d_call0 (ok__law_own_worth G) (hr.mono (by decide)) (by rfl) G.g__law_own_worth G.F__law_own_worth.kp G.b__law_own_worth (a_cons (dv 5) (a_cons (dv 9) (a_cons (dv 10) a_nil))) rfl (eCons_len (eCons_len (eCons_len (fun _ _ _ _ h => eNil_len h))))))) (w_or1 (q_cmp (k_ne hu) (d_b (d_callK0 (π := [2, 1, 0]) (ok_worth G) (hr.mono (by decide)) (by rfl) G.g_worth G.F_worth.kp G.kb_worth_0_count_limit_entry (kw_cons (dv 10) (kw_cons (dv 9) (kw_cons (n_d (c_list G.z_list (ab_cons (bv 5) ab_nil))) kw_nil))))) (d_b (d_call tk (ok_worth G) (hr.mono (by decide)) (by rfl) G.g_worth G.F_worth.kp G.b_worth (a_cons (dv 5) (a_cons (dv 9) (a_cons (dv 10) a_nil))) rfl (eCons_len (eCons_len (eCons_len (fun _ _ _ _ h => eNil_len h))))))))).pt (ss_one (s_ret d_bl)) ss_nil)))))
    (ss_cons (s_if (w_or (q_cmp (k_ne hu) (d_b (d_callD (dd := [.int 0]) tk (ok_worth G) (hr.mono (by decide)) (by rfl) G.g_worth G.F_worth.kp G.bd_worth (fun _ _ => rp_ints [0]) (a_cons (dv 5) (a_cons d_int a_nil)) rfl (eCons_len (eCons_len (fun _ _ _ _ h => eNil_len h))))) (d_b (d_call0 (ok__law_own_worth G) (hr.mono (by decide)) (by rfl) G.g__law_own_worth G.F__law_own_worth.kp G.b__law_own_worth (a_cons (dv 5) (a_cons d_int (a_cons d_int a_nil))) rfl (eCons_len (eCons_len (eCons_len (fun _ _ _ _ h => eNil_len h))))))) (w_or1 (q_cmp (k_ne hu) (d_b (d_call tk (ok_worth G) (hr.mono (by decide)) (by rfl) G.g_worth G.F_worth.kp G.b_worth (a_cons (dv 5) (a_cons (c_pow (d_b d_int) (d_b d_int)) (a_cons (c_pow (d_b d_int) (d_b d_int)) a_nil))) rfl (eCons_len (eCons_len (eCons_len (fun _ _ _ _ h => eNil_len h)))))) (d_b (d_if (w_or (q_cmp (k_eq hu) (bv 4) (d_b (d_tup a_nil))) (w_or1 (q_cmp k_gt (d_b (c_ix (d_b (c_ix (bv 4) (d_b (d_neg (d_b d_int))))) (d_b d_int))) (d_b d_int)))).pt d_str (dv 3)))))).pt (ss_one (s_ret d_bl)) ss_nil)
    (ss_cons (s_asgT (ps_asg (d_tup (a_cons (d_call0 (ok__law_pick G) (hr.mono (by decide)) (by rfl) G.g__law_pick G.F__law_pick.kp G.b__law_pick (a_cons (dv 1) (a_cons (n_d (n_lst (a_cons d_non (a_cons d_int (a_cons (c_add (d_b (c_pow (d_b d_int) (d_b d_int))) (d_b d_int)) (a_cons d_bl (a_cons d_str (a_cons (d_neg (d_b d_int)) a_nil)))))))) a_nil)) rfl (eCons_len (eCons_len (fun _ _ _ _ h => eNil_len h)))) (a_cons (d_call0 (ok__law_pick G) (hr.mono (by decide)) (by rfl) G.g__law_pick G.F__law_pick.kp G.b__law_pick (a_cons (dv 1) (a_cons (n_d (n_lst (a_cons d_non (a_cons (d_neg (d_b d_int)) (a_cons d_int (a_cons d_bl (a_cons d_str a_nil))))))) a_nil)) rfl (eCons_len (eCons_len (fun _ _ _ _ h => eNil_len h)))) a_nil))) (g_tup rfl rfl (gs_cons (gn 11 nd) (gs_cons (gn 12 nd) gs_nil)))))
    (ss_cons (s_set (ps_set (i := 13) nd rfl (Or.inl rfl) (n_d (n_lst (a_cons (d_heard (as := []) rfl G.F__law_heard sc__law_heard rfl (Or.inl rfl) (hd__law_heard G) (psi__law_heard) tk (hr.mono (by decide)) (by rfl) G.g__law_heard G.b__law_heard TBl rfl htab rfl (lmS_by (by kernel_rfl)) (Or.inl ⟨rfl, rfl, rfl, fun _ _ _ _ _ _ _ => rfl⟩) (fun b0 A outer s H E f c hr tk => by
      have hu := hr.units
      have hu1 : _ + 65 < cLine := Nat.lt_of_lt_of_le (Nat.add_lt_add_left (by decide) _) (Nat.le_of_lt hr.un)
      exact (d_call tk (ok_worth G) (hr.mono (by decide)) (by rfl) G.g_worth G.F_worth.kp G.b_worth (a_cons (dv 7) (a_cons (dv 11) (a_cons (dv 12) a_nil))) rfl (eCons_len (eCons_len (eCons_len (fun _ _ _ _ h => eNil_len h))))))) (a_cons (d_heard (as := ["a1"]) rfl G.F__law_heard sc__law_heard rfl (Or.inl rfl) (hd__law_heard G) (psi__law_heard) tk (hr.mono (by decide)) (by rfl) G.g__law_heard G.b__law_heard TBl rfl htab rfl (lmS_by (by kernel_rfl)) (Or.inr ⟨"a1", _, .int 0, rfl, rfl, rfl, pe_int, fun _ _ _ _ _ _ _ _ _ => ⟨_, rfl, rfl⟩⟩) (fun b0 A outer s H E f c hr tk => by
      have hu := hr.units
      have hu1 : _ + 65 < cLine := Nat.lt_of_lt_of_le (Nat.add_lt_add_left (by decide) _) (Nat.le_of_lt hr.un)
      exact (d_call tk (ok_worth G) (hr.mono (by decide)) (by rfl) G.g_worth G.F_worth.kp G.b_worth (a_cons (dv 5) (a_cons (dv 11) (a_cons (dv 12) a_nil))) rfl (eCons_len (eCons_len (eCons_len (fun _ _ _ _ h => eNil_len h))))))) (a_cons (d_heard (as := ["a2"]) rfl G.F__law_heard sc__law_heard rfl (Or.inl rfl) (hd__law_heard G) (psi__law_heard) tk (hr.mono (by decide)) (by rfl) G.g__law_heard G.b__law_heard TBl rfl htab rfl (lmS_by (by kernel_rfl)) (Or.inr ⟨"a2", _, .int 0, rfl, rfl, rfl, pe_int, fun _ _ _ _ _ _ _ _ _ => ⟨_, rfl, rfl⟩⟩) (fun b0 A outer s H E f c hr tk => by
      have hu := hr.units
      have hu1 : _ + 65 < cLine := Nat.lt_of_lt_of_le (Nat.add_lt_add_left (by decide) _) (Nat.le_of_lt hr.un)
      exact (d_call tk (ok_worth G) (hr.mono (by decide)) (by rfl) G.g_worth G.F_worth.kp G.b_worth (a_cons (dv 5) (a_cons d_int (a_cons (dv 12) a_nil))) rfl (eCons_len (eCons_len (eCons_len (fun _ _ _ _ h => eNil_len h))))))) a_nil)))))))
    (ss_one (s_if (q_cmp (k_ne hu) (d_b (d_reprD rfl hsm rfl hu1 (by rfl) G.z_repr (by decide +kernel) (dv 13))) (d_b (d_reprD rfl hsm rfl hu1 (by rfl) G.z_repr (by decide +kernel) (n_d (n_lst (a_cons (d_tup (a_cons d_str (a_cons (dv 7) a_nil))) (a_cons (d_tup (a_cons d_str (a_cons (dv 11) a_nil))) (a_cons (d_tup (a_cons d_str (a_cons (dv 12) a_nil))) a_nil)))))))) (ss_one (s_ret d_bl)) ss_nil))))))))))))))
    (ss_one (s_ret (d_and (c_cmp k_isB (d_b (d_call0 (ok_is_entry G) (hr.mono (by decide)) (by rfl) G.g_is_entry G.F_is_entry.kp G.b_is_entry (a_cons (d_tup (a_cons d_str (a_cons (d_tup (a_cons (d_tup (a_cons d_int (a_cons d_int a_nil))) a_nil)) a_nil))) a_nil) rfl (eCons_len (fun _ _ _ _ h => eNil_len h)))) (d_b d_bl)) (d_and (c_cmp (k_eq hu) (d_b (d_call tk (ok_worth G) (hr.mono (by decide)) (by rfl) G.g_worth G.F_worth.kp G.b_worth (a_cons (d_tup (a_cons d_str (a_cons (d_tup (a_cons (d_tup (a_cons d_int (a_cons d_int a_nil))) a_nil)) a_nil))) (a_cons d_int (a_cons d_int a_nil))) rfl (eCons_len (eCons_len (eCons_len (fun _ _ _ _ h => eNil_len h)))))) (d_b d_str)) (d_one (c_cmp (k_eq hu) (d_b (d_call tk (ok_worth G) (hr.mono (by decide)) (by rfl) G.g_worth G.F_worth.kp G.b_worth (a_cons (d_tup (a_cons d_str (a_cons (d_tup (a_cons (d_tup (a_cons d_int (a_cons d_int a_nil))) a_nil)) a_nil))) (a_cons d_int (a_cons d_int a_nil))) rfl (eCons_len (eCons_len (eCons_len (fun _ _ _ _ h => eNil_len h)))))) (d_b d_str)))))))))
end DL

namespace DL
open PySem PySem.Spec PyProof.Rows L2
set_option maxHeartbeats 0 in
theorem all_mk {l : PySem.W.OpenLaw} {w : World} {K : PySem.W.Frag} {h : Heap} {mg : Str → Option Value} {fa : Addr} (X : K.In h) (G : h.Ns mainGlobals mg) (hfa : mg "law" = some (.ref fa)) (hP : l.prog = PySem.Challenge.pw_quietcount_k15_entries_and_what_they_are) {cL Pt : Addr}
    {f0 : Addr} {od0 an0 : Option Addr} {sl0 : Array (Option Value)} {oc0 kV0 dc0 pm0 ct0 : Value} {cd0 : Value}
    (a0 : PySem.W.nsIn K mainGlobals "is_integer" = some (some (.ref f0))) (l0 : K.lookup f0 = some ⟨oc0, od0, .func (PySem.W.fnOf "is_integer" "is_integer" (defArgs st_is_integer) (defBody st_is_integer) (defScope st_is_integer) .none kV0 dc0 pm0 an0 cd0 ct0), sl0⟩) (c0 : PySem.W.codeIn K cd0 "is_integer" = true) (k0 : PySem.W.keepIn K (.ref f0) = true)
    {f1 : Addr} {od1 an1 : Option Addr} {sl1 : Array (Option Value)} {oc1 kV1 dc1 pm1 ct1 : Value} {cd1 : Value}
    (a1 : PySem.W.nsIn K mainGlobals "is_between" = some (some (.ref f1))) (l1 : K.lookup f1 = some ⟨oc1, od1, .func (PySem.W.fnOf "is_between" "is_between" (defArgs st_is_between) (defBody st_is_between) (defScope st_is_between) .none kV1 dc1 pm1 an1 cd1 ct1), sl1⟩) (c1 : PySem.W.codeIn K cd1 "is_between" = true) (k1 : PySem.W.keepIn K (.ref f1) = true)
    {f2 : Addr} {od2 an2 : Option Addr} {sl2 : Array (Option Value)} {oc2 kV2 dc2 pm2 ct2 : Value} {cd2 : Value}
    (a2 : PySem.W.nsIn K mainGlobals "is_listed" = some (some (.ref f2))) (l2 : K.lookup f2 = some ⟨oc2, od2, .func (PySem.W.fnOf "is_listed" "is_listed" (defArgs st_is_listed) (defBody st_is_listed) (defScope st_is_listed) .none kV2 dc2 pm2 an2 cd2 ct2), sl2⟩) (c2 : PySem.W.codeIn K cd2 "is_listed" = true) (k2 : PySem.W.keepIn K (.ref f2) = true)
    {f3 : Addr} {od3 an3 : Option Addr} {sl3 : Array (Option Value)} {oc3 kV3 dc3 pm3 ct3 : Value} {cd3 : Value}
    (a3 : PySem.W.nsIn K mainGlobals "number_in" = some (some (.ref f3))) (l3 : K.lookup f3 = some ⟨oc3, od3, .func (PySem.W.fnOf "number_in" "number_in" (defArgs st_number_in) (defBody st_number_in) (defScope st_number_in) .none kV3 dc3 pm3 an3 cd3 ct3), sl3⟩) (c3 : PySem.W.codeIn K cd3 "number_in" = true) (k3 : PySem.W.keepIn K (.ref f3) = true)
    {f4 : Addr} {od4 an4 : Option Addr} {sl4 : Array (Option Value)} {oc4 kV4 dc4 pm4 ct4 : Value} {cd4 : Value}
    (a4 : PySem.W.nsIn K mainGlobals "is_pair_of" = some (some (.ref f4))) (l4 : K.lookup f4 = some ⟨oc4, od4, .func (PySem.W.fnOf "is_pair_of" "is_pair_of" (defArgs st_is_pair_of) (defBody st_is_pair_of) (defScope st_is_pair_of) .none kV4 dc4 pm4 an4 cd4 ct4), sl4⟩) (c4 : PySem.W.codeIn K cd4 "is_pair_of" = true) (k4 : PySem.W.keepIn K (.ref f4) = true)
    {f5 : Addr} {od5 an5 : Option Addr} {sl5 : Array (Option Value)} {oc5 kV5 dc5 pm5 ct5 : Value} {cd5 : Value}
    (a5 : PySem.W.nsIn K mainGlobals "fixed_stair" = some (some (.ref f5))) (l5 : K.lookup f5 = some ⟨oc5, od5, .func (PySem.W.fnOf "fixed_stair" "fixed_stair" (defArgs st_fixed_stair) (defBody st_fixed_stair) (defScope st_fixed_stair) .none kV5 dc5 pm5 an5 cd5 ct5), sl5⟩) (c5 : PySem.W.codeIn K cd5 "fixed_stair" = true) (k5 : PySem.W.keepIn K (.ref f5) = true)
    {f6 : Addr} {od6 an6 : Option Addr} {sl6 : Array (Option Value)} {oc6 kV6 dc6 pm6 ct6 : Value} {cd6 : Value}
    (a6 : PySem.W.nsIn K mainGlobals "need_count" = some (some (.ref f6))) (l6 : K.lookup f6 = some ⟨oc6, od6, .func (PySem.W.fnOf "need_count" "need_count" (defArgs st_need_count) (defBody st_need_count) (defScope st_need_count) .none kV6 dc6 pm6 an6 cd6 ct6), sl6⟩) (c6 : PySem.W.codeIn K cd6 "need_count" = true) (k6 : PySem.W.keepIn K (.ref f6) = true)
    {f7 : Addr} {od7 an7 : Option Addr} {sl7 : Array (Option Value)} {oc7 kV7 dc7 pm7 ct7 : Value} {cd7 : Value}
    (a7 : PySem.W.nsIn K mainGlobals "need_limit" = some (some (.ref f7))) (l7 : K.lookup f7 = some ⟨oc7, od7, .func (PySem.W.fnOf "need_limit" "need_limit" (defArgs st_need_limit) (defBody st_need_limit) (defScope st_need_limit) .none kV7 dc7 pm7 an7 cd7 ct7), sl7⟩) (c7 : PySem.W.codeIn K cd7 "need_limit" = true) (k7 : PySem.W.keepIn K (.ref f7) = true)
    {f8 : Addr} {od8 an8 : Option Addr} {sl8 : Array (Option Value)} {oc8 kV8 dc8 pm8 ct8 : Value} {cd8 : Value}
    (a8 : PySem.W.nsIn K mainGlobals "is_stair" = some (some (.ref f8))) (l8 : K.lookup f8 = some ⟨oc8, od8, .func (PySem.W.fnOf "is_stair" "is_stair" (defArgs st_is_stair) (defBody st_is_stair) (defScope st_is_stair) .none kV8 dc8 pm8 an8 cd8 ct8), sl8⟩) (c8 : PySem.W.codeIn K cd8 "is_stair" = true) (k8 : PySem.W.keepIn K (.ref f8) = true)
    {f9 : Addr} {od9 an9 : Option Addr} {sl9 : Array (Option Value)} {oc9 kV9 dc9 pm9 ct9 : Value} {cd9 : Value}
    (a9 : PySem.W.nsIn K mainGlobals "fixed_entry" = some (some (.ref f9))) (l9 : K.lookup f9 = some ⟨oc9, od9, .func (PySem.W.fnOf "fixed_entry" "fixed_entry" (defArgs st_fixed_entry) (defBody st_fixed_entry) (defScope st_fixed_entry) .none kV9 dc9 pm9 an9 cd9 ct9), sl9⟩) (c9 : PySem.W.codeIn K cd9 "fixed_entry" = true) (k9 : PySem.W.keepIn K (.ref f9) = true)
    {f10 : Addr} {od10 an10 : Option Addr} {sl10 : Array (Option Value)} {oc10 kV10 dc10 pm10 ct10 : Value} {cd10 : Value}
    (a10 : PySem.W.nsIn K mainGlobals "worth_in" = some (some (.ref f10))) (l10 : K.lookup f10 = some ⟨oc10, od10, .func (PySem.W.fnOf "worth_in" "worth_in" (defArgs st_worth_in) (defBody st_worth_in) (defScope st_worth_in) .none kV10 dc10 pm10 an10 cd10 ct10), sl10⟩) (c10 : PySem.W.codeIn K cd10 "worth_in" = true) (k10 : PySem.W.keepIn K (.ref f10) = true)
    {f11 : Addr} {od11 an11 : Option Addr} {sl11 : Array (Option Value)} {oc11 kV11 dc11 pm11 ct11 : Value} {cd11 : Value}
    (a11 : PySem.W.nsIn K mainGlobals "is_entry" = some (some (.ref f11))) (l11 : K.lookup f11 = some ⟨oc11, od11, .func (PySem.W.fnOf "is_entry" "is_entry" (defArgs st_is_entry) (defBody st_is_entry) (defScope st_is_entry) .none kV11 dc11 pm11 an11 cd11 ct11), sl11⟩) (c11 : PySem.W.codeIn K cd11 "is_entry" = true) (k11 : PySem.W.keepIn K (.ref f11) = true)
    {f12 : Addr} {od12 an12 : Option Addr} {sl12 : Array (Option Value)} {oc12 kV12 dc12 pm12 ct12 : Value} {cd12 : Value}
    (a12 : PySem.W.nsIn K mainGlobals "need_entry" = some (some (.ref f12))) (l12 : K.lookup f12 = some ⟨oc12, od12, .func (PySem.W.fnOf "need_entry" "need_entry" (defArgs st_need_entry) (defBody st_need_entry) (defScope st_need_entry) .none kV12 dc12 pm12 an12 cd12 ct12), sl12⟩) (c12 : PySem.W.codeIn K cd12 "need_entry" = true) (k12 : PySem.W.keepIn K (.ref f12) = true)
    {f13 : Addr} {fd13 : FuncData} (a13 : PySem.W.nsIn K mainGlobals "worth" = some (some (.ref f13))) (FD13 : FunD K "worth" "worth" (defArgs st_worth) (defBody st_worth) (defScope st_worth) [.int 0] [] f13 fd13)
    {f14 : Addr} {od14 an14 : Option Addr} {sl14 : Array (Option Value)} {oc14 kV14 dc14 pm14 ct14 : Value} {cd14 : Value}
    (a14 : PySem.W.nsIn K mainGlobals "_law_pen" = some (some (.ref f14))) (l14 : K.lookup f14 = some ⟨oc14, od14, .func (PySem.W.fnOf "_law_pen" "_law_pen" (defArgs st__law_pen) (defBody st__law_pen) (defScope st__law_pen) .none kV14 dc14 pm14 an14 cd14 ct14), sl14⟩) (c14 : PySem.W.codeIn K cd14 "_law_pen" = true) (k14 : PySem.W.keepIn K (.ref f14) = true)
    {f15 : Addr} {od15 an15 : Option Addr} {sl15 : Array (Option Value)} {oc15 kV15 dc15 pm15 ct15 : Value} {cd15 : Value}
    (a15 : PySem.W.nsIn K mainGlobals "_law_draw" = some (some (.ref f15))) (l15 : K.lookup f15 = some ⟨oc15, od15, .func (PySem.W.fnOf "_law_draw" "_law_draw" (defArgs st__law_draw) (defBody st__law_draw) (defScope st__law_draw) .none kV15 dc15 pm15 an15 cd15 ct15), sl15⟩) (c15 : PySem.W.codeIn K cd15 "_law_draw" = true) (k15 : PySem.W.keepIn K (.ref f15) = true)
    {f16 : Addr} {od16 an16 : Option Addr} {sl16 : Array (Option Value)} {oc16 kV16 dc16 pm16 ct16 : Value} {cd16 : Value}
    (a16 : PySem.W.nsIn K mainGlobals "_law_pick" = some (some (.ref f16))) (l16 : K.lookup f16 = some ⟨oc16, od16, .func (PySem.W.fnOf "_law_pick" "_law_pick" (defArgs st__law_pick) (defBody st__law_pick) (defScope st__law_pick) .none kV16 dc16 pm16 an16 cd16 ct16), sl16⟩) (c16 : PySem.W.codeIn K cd16 "_law_pick" = true) (k16 : PySem.W.keepIn K (.ref f16) = true)
    {f17 : Addr} {od17 an17 : Option Addr} {sl17 : Array (Option Value)} {oc17 kV17 dc17 pm17 ct17 : Value} {cd17 : Value}
    (a17 : PySem.W.nsIn K mainGlobals "_law_heard_one" = some (some (.ref f17))) (l17 : K.lookup f17 = some ⟨oc17, od17, .func (PySem.W.fnOf "_law_heard_one" "_law_heard_one" (defArgs st__law_heard_one) (defBody st__law_heard_one) (defScope st__law_heard_one) .none kV17 dc17 pm17 an17 cd17 ct17), sl17⟩) (c17 : PySem.W.codeIn K cd17 "_law_heard_one" = true) (k17 : PySem.W.keepIn K (.ref f17) = true)
    {f18 : Addr} {od18 an18 : Option Addr} {sl18 : Array (Option Value)} {oc18 kV18 dc18 pm18 ct18 : Value} {cd18 : Value}
    (a18 : PySem.W.nsIn K mainGlobals "_law_heard" = some (some (.ref f18))) (l18 : K.lookup f18 = some ⟨oc18, od18, .func (PySem.W.fnOf "_law_heard" "_law_heard" (defArgs st__law_heard) (defBody st__law_heard) (defScope st__law_heard) .none kV18 dc18 pm18 an18 cd18 ct18), sl18⟩) (c18 : PySem.W.codeIn K cd18 "_law_heard" = true) (k18 : PySem.W.keepIn K (.ref f18) = true)
    {f19 : Addr} {od19 an19 : Option Addr} {sl19 : Array (Option Value)} {oc19 kV19 dc19 pm19 ct19 : Value} {cd19 : Value}
    (a19 : PySem.W.nsIn K mainGlobals "_law_number" = some (some (.ref f19))) (l19 : K.lookup f19 = some ⟨oc19, od19, .func (PySem.W.fnOf "_law_number" "_law_number" (defArgs st__law_number) (defBody st__law_number) (defScope st__law_number) .none kV19 dc19 pm19 an19 cd19 ct19), sl19⟩) (c19 : PySem.W.codeIn K cd19 "_law_number" = true) (k19 : PySem.W.keepIn K (.ref f19) = true)
    {f20 : Addr} {od20 an20 : Option Addr} {sl20 : Array (Option Value)} {oc20 kV20 dc20 pm20 ct20 : Value} {cd20 : Value}
    (a20 : PySem.W.nsIn K mainGlobals "_law_by_limits" = some (some (.ref f20))) (l20 : K.lookup f20 = some ⟨oc20, od20, .func (PySem.W.fnOf "_law_by_limits" "_law_by_limits" (defArgs st__law_by_limits) (defBody st__law_by_limits) (defScope st__law_by_limits) .none kV20 dc20 pm20 an20 cd20 ct20), sl20⟩) (c20 : PySem.W.codeIn K cd20 "_law_by_limits" = true) (k20 : PySem.W.keepIn K (.ref f20) = true)
    {f21 : Addr} {od21 an21 : Option Addr} {sl21 : Array (Option Value)} {oc21 kV21 dc21 pm21 ct21 : Value} {cd21 : Value}
    (a21 : PySem.W.nsIn K mainGlobals "_law_of_limits" = some (some (.ref f21))) (l21 : K.lookup f21 = some ⟨oc21, od21, .func (PySem.W.fnOf "_law_of_limits" "_law_of_limits" (defArgs st__law_of_limits) (defBody st__law_of_limits) (defScope st__law_of_limits) .none kV21 dc21 pm21 an21 cd21 ct21), sl21⟩) (c21 : PySem.W.codeIn K cd21 "_law_of_limits" = true) (k21 : PySem.W.keepIn K (.ref f21) = true)
    {f22 : Addr} {od22 an22 : Option Addr} {sl22 : Array (Option Value)} {oc22 kV22 dc22 pm22 ct22 : Value} {cd22 : Value}
    (a22 : PySem.W.nsIn K mainGlobals "_law_pairs" = some (some (.ref f22))) (l22 : K.lookup f22 = some ⟨oc22, od22, .func (PySem.W.fnOf "_law_pairs" "_law_pairs" (defArgs st__law_pairs) (defBody st__law_pairs) (defScope st__law_pairs) .none kV22 dc22 pm22 an22 cd22 ct22), sl22⟩) (c22 : PySem.W.codeIn K cd22 "_law_pairs" = true) (k22 : PySem.W.keepIn K (.ref f22) = true)
    {f23 : Addr} {od23 an23 : Option Addr} {sl23 : Array (Option Value)} {oc23 kV23 dc23 pm23 ct23 : Value} {cd23 : Value}
    (a23 : PySem.W.nsIn K mainGlobals "_law_most" = some (some (.ref f23))) (l23 : K.lookup f23 = some ⟨oc23, od23, .func (PySem.W.fnOf "_law_most" "_law_most" (defArgs st__law_most) (defBody st__law_most) (defScope st__law_most) .none kV23 dc23 pm23 an23 cd23 ct23), sl23⟩) (c23 : PySem.W.codeIn K cd23 "_law_most" = true) (k23 : PySem.W.keepIn K (.ref f23) = true)
    {f24 : Addr} {od24 an24 : Option Addr} {sl24 : Array (Option Value)} {oc24 kV24 dc24 pm24 ct24 : Value} {cd24 : Value}
    (a24 : PySem.W.nsIn K mainGlobals "_law_stair" = some (some (.ref f24))) (l24 : K.lookup f24 = some ⟨oc24, od24, .func (PySem.W.fnOf "_law_stair" "_law_stair" (defArgs st__law_stair) (defBody st__law_stair) (defScope st__law_stair) .none kV24 dc24 pm24 an24 cd24 ct24), sl24⟩) (c24 : PySem.W.codeIn K cd24 "_law_stair" = true) (k24 : PySem.W.keepIn K (.ref f24) = true)
    {f25 : Addr} {od25 an25 : Option Addr} {sl25 : Array (Option Value)} {oc25 kV25 dc25 pm25 ct25 : Value} {cd25 : Value}
    (a25 : PySem.W.nsIn K mainGlobals "_law_some_stair" = some (some (.ref f25))) (l25 : K.lookup f25 = some ⟨oc25, od25, .func (PySem.W.fnOf "_law_some_stair" "_law_some_stair" (defArgs st__law_some_stair) (defBody st__law_some_stair) (defScope st__law_some_stair) .none kV25 dc25 pm25 an25 cd25 ct25), sl25⟩) (c25 : PySem.W.codeIn K cd25 "_law_some_stair" = true) (k25 : PySem.W.keepIn K (.ref f25) = true)
    {f26 : Addr} {od26 an26 : Option Addr} {sl26 : Array (Option Value)} {oc26 kV26 dc26 pm26 ct26 : Value} {cd26 : Value}
    (a26 : PySem.W.nsIn K mainGlobals "_law_own_worth" = some (some (.ref f26))) (l26 : K.lookup f26 = some ⟨oc26, od26, .func (PySem.W.fnOf "_law_own_worth" "_law_own_worth" (defArgs st__law_own_worth) (defBody st__law_own_worth) (defScope st__law_own_worth) .none kV26 dc26 pm26 an26 cd26 ct26), sl26⟩) (c26 : PySem.W.codeIn K cd26 "_law_own_worth" = true) (k26 : PySem.W.keepIn K (.ref f26) = true)
    {f27 : Addr} {od27 an27 : Option Addr} {sl27 : Array (Option Value)} {oc27 kV27 dc27 pm27 ct27 : Value}
    (a27 : PySem.W.nsIn K mainGlobals "law" = some (some (.ref f27))) (l27 : K.lookup f27 = some ⟨oc27, od27, .func (PySem.W.fnOf "law" "law" (defArgs st_law) (defBody st_law) (defScope st_law) .none kV27 dc27 pm27 an27 (.ref cL) ct27), sl27⟩) (c27 : PySem.W.codeIn K (.ref cL) "law" = true) (k27 : PySem.W.keepIn K (.ref f27) = true)
    (z_isinstance : PySem.W.nsIn K mainGlobals "isinstance" = some none)
    (z_int : PySem.W.nsIn K mainGlobals "int" = some none)
    (z_bool : PySem.W.nsIn K mainGlobals "bool" = some none)
    (z_list : PySem.W.nsIn K mainGlobals "list" = some none)
    (z_tuple : PySem.W.nsIn K mainGlobals "tuple" = some none)
    (z_len : PySem.W.nsIn K mainGlobals "len" = some none)
    (z_all : PySem.W.nsIn K mainGlobals "all" = some none)
    (z_zip : PySem.W.nsIn K mainGlobals "zip" = some none)
    (z_str : PySem.W.nsIn K mainGlobals "str" = some none)
    (z_abs : PySem.W.nsIn K mainGlobals "abs" = some none)
    (z_range : PySem.W.nsIn K mainGlobals "range" = some none)
    (z_min : PySem.W.nsIn K mainGlobals "min" = some none)
    (z_enumerate : PySem.W.nsIn K mainGlobals "enumerate" = some none)
    (z_max : PySem.W.nsIn K mainGlobals "max" = some none)
    (z_repr : PySem.W.nsIn K mainGlobals "repr" = some none)
    {t_MOST_LIMIT : Tok} (q_MOST_LIMIT : PySem.W.nsIn K mainGlobals "MOST_LIMIT" = some (some (.int 1000000 t_MOST_LIMIT)))
    (TU_WORDS : TupG K mg "WORDS" ["drawn", "won", "lost"])
    {C0 : Addr} (gc0 : PySem.W.nsIn K mainGlobals "CountError" = some (some (.ref C0)))
    {C1 : Addr} (gc1 : PySem.W.nsIn K mainGlobals "BadName" = some (some (.ref C1)))
    {C2 : Addr} (gc2 : PySem.W.nsIn K mainGlobals "BadNumber" = some (some (.ref C2)))
    {C3 : Addr} (gc3 : PySem.W.nsIn K mainGlobals "BadCell" = some (some (.ref C3)))
    {C4 : Addr} (gc4 : PySem.W.nsIn K mainGlobals "BadSide" = some (some (.ref C4)))
    {C5 : Addr} (gc5 : PySem.W.nsIn K mainGlobals "BadLetter" = some (some (.ref C5)))
    {C6 : Addr} (gc6 : PySem.W.nsIn K mainGlobals "BadWay" = some (some (.ref C6)))
    {C7 : Addr} (gc7 : PySem.W.nsIn K mainGlobals "BadGame" = some (some (.ref C7)))
    {C8 : Addr} (gc8 : PySem.W.nsIn K mainGlobals "BadStanding" = some (some (.ref C8)))
    {C9 : Addr} (gc9 : PySem.W.nsIn K mainGlobals "BadPly" = some (some (.ref C9)))
    {C10 : Addr} (gc10 : PySem.W.nsIn K mainGlobals "BadClass" = some (some (.ref C10)))
    {C11 : Addr} (gc11 : PySem.W.nsIn K mainGlobals "BadKey" = some (some (.ref C11)))
    {C12 : Addr} (gc12 : PySem.W.nsIn K mainGlobals "BadStair" = some (some (.ref C12)))
    {C13 : Addr} (gc13 : PySem.W.nsIn K mainGlobals "BadEntry" = some (some (.ref C13)))
    {C14 : Addr} (gc14 : PySem.W.nsIn K mainGlobals "BadTable" = some (some (.ref C14)))
    {C15 : Addr} (gc15 : PySem.W.nsIn K mainGlobals "BadBook" = some (some (.ref C15)))
    {C16 : Addr} (gc16 : PySem.W.nsIn K mainGlobals "BadValue" = some (some (.ref C16)))
    {C17 : Addr} (gc17 : PySem.W.nsIn K mainGlobals "BadPaper" = some (some (.ref C17)))
    {C18 : Addr} (gc18 : PySem.W.nsIn K mainGlobals "Unlike" = some (some (.ref C18)))
    {C19 : Addr} (gc19 : PySem.W.nsIn K mainGlobals "Nothing" = some (some (.ref C19)))
    {C20 : Addr} (gc20 : PySem.W.nsIn K mainGlobals "BadText" = some (some (.ref C20)))
    {C21 : Addr} (gc21 : PySem.W.nsIn K mainGlobals "TooMany" = some (some (.ref C21)))
    {xq0 : Str} {xN0 : Addr} {xb0 : List Value} {xn0 : List Str} {xs0 : List Value} {xa0 : Bool} {xo0 : Option Bool} {xd0 : Option Addr} {x00 x10 x20 x30 x50 : Option Value}
    (xl0 : K.lookup C0 = some (excClassObj "CountError" xq0 C0 xN0 xb0 [.type "ValueError", .type "Exception", .type "BaseException", .type "object"] true xn0 xs0 xa0 xo0 xd0 x00 x10 x20 x30 x50 "ValueError.__new__"))
    {xq1 : Str} {xN1 : Addr} {xb1 : List Value} {xn1 : List Str} {xs1 : List Value} {xa1 : Bool} {xo1 : Option Bool} {xd1 : Option Addr} {x01 x11 x21 x31 x51 : Option Value}
    (xl1 : K.lookup C1 = some (excClassObj "BadName" xq1 C1 xN1 xb1 (.ref C0 :: [.type "ValueError", .type "Exception", .type "BaseException", .type "object"]) true xn1 xs1 xa1 xo1 xd1 x01 x11 x21 x31 x51 "ValueError.__new__"))
    {xq2 : Str} {xN2 : Addr} {xb2 : List Value} {xn2 : List Str} {xs2 : List Value} {xa2 : Bool} {xo2 : Option Bool} {xd2 : Option Addr} {x02 x12 x22 x32 x52 : Option Value}
    (xl2 : K.lookup C2 = some (excClassObj "BadNumber" xq2 C2 xN2 xb2 (.ref C0 :: [.type "ValueError", .type "Exception", .type "BaseException", .type "object"]) true xn2 xs2 xa2 xo2 xd2 x02 x12 x22 x32 x52 "ValueError.__new__"))
    {xq3 : Str} {xN3 : Addr} {xb3 : List Value} {xn3 : List Str} {xs3 : List Value} {xa3 : Bool} {xo3 : Option Bool} {xd3 : Option Addr} {x03 x13 x23 x33 x53 : Option Value}
    (xl3 : K.lookup C3 = some (excClassObj "BadCell" xq3 C3 xN3 xb3 (.ref C0 :: [.type "ValueError", .type "Exception", .type "BaseException", .type "object"]) true xn3 xs3 xa3 xo3 xd3 x03 x13 x23 x33 x53 "ValueError.__new__"))
    {xq4 : Str} {xN4 : Addr} {xb4 : List Value} {xn4 : List Str} {xs4 : List Value} {xa4 : Bool} {xo4 : Option Bool} {xd4 : Option Addr} {x04 x14 x24 x34 x54 : Option Value}
    (xl4 : K.lookup C4 = some (excClassObj "BadSide" xq4 C4 xN4 xb4 (.ref C0 :: [.type "ValueError", .type "Exception", .type "BaseException", .type "object"]) true xn4 xs4 xa4 xo4 xd4 x04 x14 x24 x34 x54 "ValueError.__new__"))
    {xq5 : Str} {xN5 : Addr} {xb5 : List Value} {xn5 : List Str} {xs5 : List Value} {xa5 : Bool} {xo5 : Option Bool} {xd5 : Option Addr} {x05 x15 x25 x35 x55 : Option Value}
    (xl5 : K.lookup C5 = some (excClassObj "BadLetter" xq5 C5 xN5 xb5 (.ref C0 :: [.type "ValueError", .type "Exception", .type "BaseException", .type "object"]) true xn5 xs5 xa5 xo5 xd5 x05 x15 x25 x35 x55 "ValueError.__new__"))
    {xq6 : Str} {xN6 : Addr} {xb6 : List Value} {xn6 : List Str} {xs6 : List Value} {xa6 : Bool} {xo6 : Option Bool} {xd6 : Option Addr} {x06 x16 x26 x36 x56 : Option Value}
    (xl6 : K.lookup C6 = some (excClassObj "BadWay" xq6 C6 xN6 xb6 (.ref C0 :: [.type "ValueError", .type "Exception", .type "BaseException", .type "object"]) true xn6 xs6 xa6 xo6 xd6 x06 x16 x26 x36 x56 "ValueError.__new__"))
    {xq7 : Str} {xN7 : Addr} {xb7 : List Value} {xn7 : List Str} {xs7 : List Value} {xa7 : Bool} {xo7 : Option Bool} {xd7 : Option Addr} {x07 x17 x27 x37 x57 : Option Value}
    (xl7 : K.lookup C7 = some (excClassObj "BadGame" xq7 C7 xN7 xb7 (.ref C0 :: [.type "ValueError", .type "Exception", .type "BaseException", .type "object"]) true xn7 xs7 xa7 xo7 xd7 x07 x17 x27 x37 x57 "ValueError.__new__"))
    {xq8 : Str} {xN8 : Addr} {xb8 : List Value} {xn8 : List Str} {xs8 : List Value} {xa8 : Bool} {xo8 : Option Bool} {xd8 : Option Addr} {x08 x18 x28 x38 x58 : Option Value}
    (xl8 : K.lookup C8 = some (excClassObj "BadStanding" xq8 C8 xN8 xb8 (.ref C0 :: [.type "ValueError", .type "Exception", .type "BaseException", .type "object"]) true xn8 xs8 xa8 xo8 xd8 x08 x18 x28 x38 x58 "ValueError.__new__"))
    {xq9 : Str} {xN9 : Addr} {xb9 : List Value} {xn9 : List Str} {xs9 : List Value} {xa9 : Bool} {xo9 : Option Bool} {xd9 : Option Addr} {x09 x19 x29 x39 x59 : Option Value}
    (xl9 : K.lookup C9 = some (excClassObj "BadPly" xq9 C9 xN9 xb9 (.ref C0 :: [.type "ValueError", .type "Exception", .type "BaseException", .type "object"]) true xn9 xs9 xa9 xo9 xd9 x09 x19 x29 x39 x59 "ValueError.__new__"))
    {xq10 : Str} {xN10 : Addr} {xb10 : List Value} {xn10 : List Str} {xs10 : List Value} {xa10 : Bool} {xo10 : Option Bool} {xd10 : Option Addr} {x010 x110 x210 x310 x510 : Option Value}
    (xl10 : K.lookup C10 = some (excClassObj "BadClass" xq10 C10 xN10 xb10 (.ref C0 :: [.type "ValueError", .type "Exception", .type "BaseException", .type "object"]) true xn10 xs10 xa10 xo10 xd10 x010 x110 x210 x310 x510 "ValueError.__new__"))
    {xq11 : Str} {xN11 : Addr} {xb11 : List Value} {xn11 : List Str} {xs11 : List Value} {xa11 : Bool} {xo11 : Option Bool} {xd11 : Option Addr} {x011 x111 x211 x311 x511 : Option Value}
    (xl11 : K.lookup C11 = some (excClassObj "BadKey" xq11 C11 xN11 xb11 (.ref C0 :: [.type "ValueError", .type "Exception", .type "BaseException", .type "object"]) true xn11 xs11 xa11 xo11 xd11 x011 x111 x211 x311 x511 "ValueError.__new__"))
    {xq12 : Str} {xN12 : Addr} {xb12 : List Value} {xn12 : List Str} {xs12 : List Value} {xa12 : Bool} {xo12 : Option Bool} {xd12 : Option Addr} {x012 x112 x212 x312 x512 : Option Value}
    (xl12 : K.lookup C12 = some (excClassObj "BadStair" xq12 C12 xN12 xb12 (.ref C0 :: [.type "ValueError", .type "Exception", .type "BaseException", .type "object"]) true xn12 xs12 xa12 xo12 xd12 x012 x112 x212 x312 x512 "ValueError.__new__"))
    {xq13 : Str} {xN13 : Addr} {xb13 : List Value} {xn13 : List Str} {xs13 : List Value} {xa13 : Bool} {xo13 : Option Bool} {xd13 : Option Addr} {x013 x113 x213 x313 x513 : Option Value}
    (xl13 : K.lookup C13 = some (excClassObj "BadEntry" xq13 C13 xN13 xb13 (.ref C0 :: [.type "ValueError", .type "Exception", .type "BaseException", .type "object"]) true xn13 xs13 xa13 xo13 xd13 x013 x113 x213 x313 x513 "ValueError.__new__"))
    {xq14 : Str} {xN14 : Addr} {xb14 : List Value} {xn14 : List Str} {xs14 : List Value} {xa14 : Bool} {xo14 : Option Bool} {xd14 : Option Addr} {x014 x114 x214 x314 x514 : Option Value}
    (xl14 : K.lookup C14 = some (excClassObj "BadTable" xq14 C14 xN14 xb14 (.ref C0 :: [.type "ValueError", .type "Exception", .type "BaseException", .type "object"]) true xn14 xs14 xa14 xo14 xd14 x014 x114 x214 x314 x514 "ValueError.__new__"))
    {xq15 : Str} {xN15 : Addr} {xb15 : List Value} {xn15 : List Str} {xs15 : List Value} {xa15 : Bool} {xo15 : Option Bool} {xd15 : Option Addr} {x015 x115 x215 x315 x515 : Option Value}
    (xl15 : K.lookup C15 = some (excClassObj "BadBook" xq15 C15 xN15 xb15 (.ref C0 :: [.type "ValueError", .type "Exception", .type "BaseException", .type "object"]) true xn15 xs15 xa15 xo15 xd15 x015 x115 x215 x315 x515 "ValueError.__new__"))
    {xq16 : Str} {xN16 : Addr} {xb16 : List Value} {xn16 : List Str} {xs16 : List Value} {xa16 : Bool} {xo16 : Option Bool} {xd16 : Option Addr} {x016 x116 x216 x316 x516 : Option Value}
    (xl16 : K.lookup C16 = some (excClassObj "BadValue" xq16 C16 xN16 xb16 (.ref C0 :: [.type "ValueError", .type "Exception", .type "BaseException", .type "object"]) true xn16 xs16 xa16 xo16 xd16 x016 x116 x216 x316 x516 "ValueError.__new__"))
    {xq17 : Str} {xN17 : Addr} {xb17 : List Value} {xn17 : List Str} {xs17 : List Value} {xa17 : Bool} {xo17 : Option Bool} {xd17 : Option Addr} {x017 x117 x217 x317 x517 : Option Value}
    (xl17 : K.lookup C17 = some (excClassObj "BadPaper" xq17 C17 xN17 xb17 (.ref C0 :: [.type "ValueError", .type "Exception", .type "BaseException", .type "object"]) true xn17 xs17 xa17 xo17 xd17 x017 x117 x217 x317 x517 "ValueError.__new__"))
    {xq18 : Str} {xN18 : Addr} {xb18 : List Value} {xn18 : List Str} {xs18 : List Value} {xa18 : Bool} {xo18 : Option Bool} {xd18 : Option Addr} {x018 x118 x218 x318 x518 : Option Value}
    (xl18 : K.lookup C18 = some (excClassObj "Unlike" xq18 C18 xN18 xb18 (.ref C0 :: [.type "ValueError", .type "Exception", .type "BaseException", .type "object"]) true xn18 xs18 xa18 xo18 xd18 x018 x118 x218 x318 x518 "ValueError.__new__"))
    {xq19 : Str} {xN19 : Addr} {xb19 : List Value} {xn19 : List Str} {xs19 : List Value} {xa19 : Bool} {xo19 : Option Bool} {xd19 : Option Addr} {x019 x119 x219 x319 x519 : Option Value}
    (xl19 : K.lookup C19 = some (excClassObj "Nothing" xq19 C19 xN19 xb19 (.ref C0 :: [.type "ValueError", .type "Exception", .type "BaseException", .type "object"]) true xn19 xs19 xa19 xo19 xd19 x019 x119 x219 x319 x519 "ValueError.__new__"))
    {xq20 : Str} {xN20 : Addr} {xb20 : List Value} {xn20 : List Str} {xs20 : List Value} {xa20 : Bool} {xo20 : Option Bool} {xd20 : Option Addr} {x020 x120 x220 x320 x520 : Option Value}
    (xl20 : K.lookup C20 = some (excClassObj "BadText" xq20 C20 xN20 xb20 (.ref C0 :: [.type "ValueError", .type "Exception", .type "BaseException", .type "object"]) true xn20 xs20 xa20 xo20 xd20 x020 x120 x220 x320 x520 "ValueError.__new__"))
    {xq21 : Str} {xN21 : Addr} {xb21 : List Value} {xn21 : List Str} {xs21 : List Value} {xa21 : Bool} {xo21 : Option Bool} {xd21 : Option Addr} {x021 x121 x221 x321 x521 : Option Value}
    (xl21 : K.lookup C21 = some (excClassObj "TooMany" xq21 C21 xN21 xb21 (.ref C0 :: [.type "ValueError", .type "Exception", .type "BaseException", .type "object"]) true xn21 xs21 xa21 xo21 xd21 x021 x121 x221 x321 x521 "ValueError.__new__"))
    (hn : PySem.W.specialIn K (.builtin "object.__class__") "__get__" = some (some (.builtin "getset_descriptor.__get__"))) (ht : PySem.W.takesIn K (.builtin "object.__class__") = some true)
    (opq : PySem.W.nsIn K cStatics "thirdparty.any" = some none) (nos : PySem.W.nsIn K mainGlobals "super" = some none)
    {i0 : Addr} {m0 u0 : Addr} {p0_0 p0_1 p0_2 p0_3 p0_4 p0_5 p0_6 p0_7 p0_8 p0_9 p0_10 p0_11 : Pos} {ioc0 idc0 ipm0 ict0 : Value} {iod0 ian0 : Option Addr} {isl0 : Array (Option Value)}
    (sa0 : PySem.W.findIn K (.ref C2) "__setattr__" = some (some (.builtin "object.__setattr__"))) (ga0 : PySem.W.findIn K (.ref C2) "__getattribute__" = some (some (.builtin "BaseException.__getattribute__"))) (gg0 : PySem.W.findIn K (.ref C2) "__getattr__" = some none) (ha0 : PySem.W.findIn K (.ref C2) "__class__" = some (some (.builtin "object.__class__")))
    (ic0 : PySem.W.findIn K (.ref C2) "__init__" = some (some (.ref i0))) (ti0 : PySem.W.typeIn K (.ref i0) = some (.type "function")) (kc0 : PySem.W.keepIn K (.ref C2) = true) (su0 : PySem.W.ks_superIn K C2 C2 "__init__" = some (some (.builtin "ValueError.__init__")))
    (li0 : K.lookup i0 = some ⟨ioc0, iod0, .func (PySem.W.ksFn "__init__" "BadNumber.__init__" (PySem.SupX.iA "value" p0_0 p0_1) (PySem.SupX.iB "value" p0_2 p0_3 p0_4 p0_5 p0_6 p0_7 p0_8 p0_9 p0_10 p0_11) (PySem.SupX.iS "value") .none .none idc0 ipm0 ian0 (.ref u0) ict0 m0), isl0⟩) (ci0 : PySem.W.codeIn K (.ref u0) "BadNumber.__init__" = true) (ln0 : (p0_4.endLine == p0_6.line) = true)
    {ucl0 : Value} {udd0 : Option Addr} {uv0 : Array Value} {us0 : Array (Option Value)} {uf0 : Str} {ut0 : Tok} (lu0 : K.lookup u0 = some ⟨ucl0, udd0, .fields uv0, us0⟩) (uf20 : uv0[2]? = some (.str uf0 ut0)) (uf30 : ((PySem.Challenge.pw_quietcount_k15_entries_and_what_they_are.main.file : Str) == uf0) = true)
    {mc0 : Value} {md0 : Option Addr} {ms0 : Array (Option Value)} (lm0 : K.lookup m0 = some ⟨mc0, md0, .cell (some (.ref C2)), ms0⟩)
    (nn0_value : PySem.W.findIn K (.ref C2) "value" = some none)
    {i1 : Addr} {m1 u1 : Addr} {p1_0 p1_1 p1_2 p1_3 p1_4 p1_5 p1_6 p1_7 p1_8 p1_9 p1_10 p1_11 : Pos} {ioc1 idc1 ipm1 ict1 : Value} {iod1 ian1 : Option Addr} {isl1 : Array (Option Value)}
    (sa1 : PySem.W.findIn K (.ref C13) "__setattr__" = some (some (.builtin "object.__setattr__"))) (ga1 : PySem.W.findIn K (.ref C13) "__getattribute__" = some (some (.builtin "BaseException.__getattribute__"))) (gg1 : PySem.W.findIn K (.ref C13) "__getattr__" = some none) (ha1 : PySem.W.findIn K (.ref C13) "__class__" = some (some (.builtin "object.__class__")))
    (ic1 : PySem.W.findIn K (.ref C13) "__init__" = some (some (.ref i1))) (ti1 : PySem.W.typeIn K (.ref i1) = some (.type "function")) (kc1 : PySem.W.keepIn K (.ref C13) = true) (su1 : PySem.W.ks_superIn K C13 C13 "__init__" = some (some (.builtin "ValueError.__init__")))
    (li1 : K.lookup i1 = some ⟨ioc1, iod1, .func (PySem.W.ksFn "__init__" "BadEntry.__init__" (PySem.SupX.iA "value" p1_0 p1_1) (PySem.SupX.iB "value" p1_2 p1_3 p1_4 p1_5 p1_6 p1_7 p1_8 p1_9 p1_10 p1_11) (PySem.SupX.iS "value") .none .none idc1 ipm1 ian1 (.ref u1) ict1 m1), isl1⟩) (ci1 : PySem.W.codeIn K (.ref u1) "BadEntry.__init__" = true) (ln1 : (p1_4.endLine == p1_6.line) = true)
    {ucl1 : Value} {udd1 : Option Addr} {uv1 : Array Value} {us1 : Array (Option Value)} {uf1 : Str} {ut1 : Tok} (lu1 : K.lookup u1 = some ⟨ucl1, udd1, .fields uv1, us1⟩) (uf21 : uv1[2]? = some (.str uf1 ut1)) (uf31 : ((PySem.Challenge.pw_quietcount_k15_entries_and_what_they_are.main.file : Str) == uf1) = true)
    {mc1 : Value} {md1 : Option Addr} {ms1 : Array (Option Value)} (lm1 : K.lookup m1 = some ⟨mc1, md1, .cell (some (.ref C13)), ms1⟩)
    (nn1_value : PySem.W.findIn K (.ref C13) "value" = some none)
    (hsm : SMb h)
    (lh : PySem.W.codeHdIn K cL Pt = true) (lp : K.lookup Pt = none)
    (tT : h.get? Pt = some { cls := .none, data := .fields #[] }) : TopAt l w K 63 "script" mg fa h := by
  have e := hfa.symm.trans (PySem.W.mg_of X G a27)
  cases e
  have hPP := hP
  have F0 := fun_mk (st := st_is_integer) l0 c0 k0
  have b0 := F0.binds (ps := ["value"]) fun _ _ _ _ _ _ us hl => match us, hl with | [_], _ => rfl
  have F1 := fun_mk (st := st_is_between) l1 c1 k1
  have b1 := F1.binds (ps := ["value", "least", "most"]) fun _ _ _ _ _ _ us hl => match us, hl with | [_, _, _], _ => rfl
  have F2 := fun_mk (st := st_is_listed) l2 c2 k2
  have b2 := F2.binds (ps := ["value"]) fun _ _ _ _ _ _ us hl => match us, hl with | [_], _ => rfl
  have F3 := fun_mk (st := st_number_in) l3 c3 k3
  have b3 := F3.binds (ps := ["stair", "limit"]) fun _ _ _ _ _ _ us hl => match us, hl with | [_, _], _ => rfl
  have F4 := fun_mk (st := st_is_pair_of) l4 c4 k4
  have b4 := F4.binds (ps := ["value", "least", "most"]) fun _ _ _ _ _ _ us hl => match us, hl with | [_, _, _], _ => rfl
  have F5 := fun_mk (st := st_fixed_stair) l5 c5 k5
  have b5 := F5.binds (ps := ["stair"]) fun _ _ _ _ _ _ us hl => match us, hl with | [_], _ => rfl
  have F6 := fun_mk (st := st_need_count) l6 c6 k6
  have b6 := F6.binds (ps := ["count", "most"]) fun _ _ _ _ _ _ us hl => match us, hl with | [_, _], _ => rfl
  have F7 := fun_mk (st := st_need_limit) l7 c7 k7
  have b7 := F7.binds (ps := ["limit"]) fun _ _ _ _ _ _ us hl => match us, hl with | [_], _ => rfl
  have F8 := fun_mk (st := st_is_stair) l8 c8 k8
  have b8 := F8.binds (ps := ["value"]) fun _ _ _ _ _ _ us hl => match us, hl with | [_], _ => rfl
  have F9 := fun_mk (st := st_fixed_entry) l9 c9 k9
  have b9 := F9.binds (ps := ["entry"]) fun _ _ _ _ _ _ us hl => match us, hl with | [_], _ => rfl
  have F10 := fun_mk (st := st_worth_in) l10 c10 k10
  have b10 := F10.binds (ps := ["entry", "limit", "count"]) fun _ _ _ _ _ _ us hl => match us, hl with | [_, _, _], _ => rfl
  have F11 := fun_mk (st := st_is_entry) l11 c11 k11
  have b11 := F11.binds (ps := ["value"]) fun _ _ _ _ _ _ us hl => match us, hl with | [_], _ => rfl
  have F12 := fun_mk (st := st_need_entry) l12 c12 k12
  have b12 := F12.binds (ps := ["entry"]) fun _ _ _ _ _ _ us hl => match us, hl with | [_], _ => rfl
  have b13 : Binds K fd13 ["entry", "limit", "count"] [] := bindsD_all FD13 (by simp) fun _ _ _ _ _ _ _ us its h1 h2 => match us, its, h1, h2 with | [_, _, _], [_], _, _ => ⟨_, rfl, rfl⟩
  have bd13 := FD13.binds1 (ps := ["entry", "limit", "count"]) 2 0 (by simp) rfl fun _ _ _ _ _ _ _ us its h1 h2 => match us, its, h1, h2 with | [_, _], [_], _, _ => ⟨_, rfl, rfl⟩
  have F14 := fun_mk (st := st__law_pen) l14 c14 k14
  have b14 := F14.binds (ps := ["script"]) fun _ _ _ _ _ _ us hl => match us, hl with | [_], _ => rfl
  have F15 := fun_mk (st := st__law_draw) l15 c15 k15
  have b15 := F15.binds (ps := ["pen", "many"]) fun _ _ _ _ _ _ us hl => match us, hl with | [_, _], _ => rfl
  have F16 := fun_mk (st := st__law_pick) l16 c16 k16
  have b16 := F16.binds (ps := ["pen", "some"]) fun _ _ _ _ _ _ us hl => match us, hl with | [_, _], _ => rfl
  have F17 := fun_mk (st := st__law_heard_one) l17 c17 k17
  have b17 := F17.binds (ps := ["caught"]) fun _ _ _ _ _ _ us hl => match us, hl with | [_], _ => rfl
  have F18 := fun_mk (st := st__law_heard) l18 c18 k18
  have b18 := F18.binds (ps := ["ask"]) fun _ _ _ _ _ _ us hl => match us, hl with | [_], _ => rfl
  have F19 := fun_mk (st := st__law_number) l19 c19 k19
  have b19 := F19.binds (ps := ["stair", "limit"]) fun _ _ _ _ _ _ us hl => match us, hl with | [_, _], _ => rfl
  have F20 := fun_mk (st := st__law_by_limits) l20 c20 k20
  have b20 := F20.binds (ps := ["pairs", "most"]) fun _ _ _ _ _ _ us hl => match us, hl with | [_, _], _ => rfl
  have F21 := fun_mk (st := st__law_of_limits) l21 c21 k21
  have b21 := F21.binds (ps := ["row"]) fun _ _ _ _ _ _ us hl => match us, hl with | [_], _ => rfl
  have F22 := fun_mk (st := st__law_pairs) l22 c22 k22
  have b22 := F22.binds (ps := ["pen", "most"]) fun _ _ _ _ _ _ us hl => match us, hl with | [_, _], _ => rfl
  have F23 := fun_mk (st := st__law_most) l23 c23 k23
  have b23 := F23.binds (ps := ["stairs"]) fun _ _ _ _ _ _ us hl => match us, hl with | [_], _ => rfl
  have F24 := fun_mk (st := st__law_stair) l24 c24 k24
  have b24 := F24.binds (ps := ["pen", "most"]) fun _ _ _ _ _ _ us hl => match us, hl with | [_, _], _ => rfl
  have F25 := fun_mk (st := st__law_some_stair) l25 c25 k25
  have b25 := F25.binds (ps := ["pen", "most"]) fun _ _ _ _ _ _ us hl => match us, hl with | [_, _], _ => rfl
  have F26 := fun_mk (st := st__law_own_worth) l26 c26 k26
  have b26 := F26.binds (ps := ["entry", "limit", "count"]) fun _ _ _ _ _ _ us hl => match us, hl with | [_, _, _], _ => rfl
  have X0 : ExI K "CountError" C0 (veT) := ⟨_, _, _, _, _, _, _, _, _, _, _, _, _, xl0⟩
  have X1 : ExI K "BadName" C1 (.ref C0 :: veT) := ⟨_, _, _, _, _, _, _, _, _, _, _, _, _, xl1⟩
  have X2 : ExI K "BadNumber" C2 (.ref C0 :: veT) := ⟨_, _, _, _, _, _, _, _, _, _, _, _, _, xl2⟩
  have X3 : ExI K "BadCell" C3 (.ref C0 :: veT) := ⟨_, _, _, _, _, _, _, _, _, _, _, _, _, xl3⟩
  have X4 : ExI K "BadSide" C4 (.ref C0 :: veT) := ⟨_, _, _, _, _, _, _, _, _, _, _, _, _, xl4⟩
  have X5 : ExI K "BadLetter" C5 (.ref C0 :: veT) := ⟨_, _, _, _, _, _, _, _, _, _, _, _, _, xl5⟩
  have X6 : ExI K "BadWay" C6 (.ref C0 :: veT) := ⟨_, _, _, _, _, _, _, _, _, _, _, _, _, xl6⟩
  have X7 : ExI K "BadGame" C7 (.ref C0 :: veT) := ⟨_, _, _, _, _, _, _, _, _, _, _, _, _, xl7⟩
  have X8 : ExI K "BadStanding" C8 (.ref C0 :: veT) := ⟨_, _, _, _, _, _, _, _, _, _, _, _, _, xl8⟩
  have X9 : ExI K "BadPly" C9 (.ref C0 :: veT) := ⟨_, _, _, _, _, _, _, _, _, _, _, _, _, xl9⟩
  have X10 : ExI K "BadClass" C10 (.ref C0 :: veT) := ⟨_, _, _, _, _, _, _, _, _, _, _, _, _, xl10⟩
  have X11 : ExI K "BadKey" C11 (.ref C0 :: veT) := ⟨_, _, _, _, _, _, _, _, _, _, _, _, _, xl11⟩
  have X12 : ExI K "BadStair" C12 (.ref C0 :: veT) := ⟨_, _, _, _, _, _, _, _, _, _, _, _, _, xl12⟩
  have X13 : ExI K "BadEntry" C13 (.ref C0 :: veT) := ⟨_, _, _, _, _, _, _, _, _, _, _, _, _, xl13⟩
  have X14 : ExI K "BadTable" C14 (.ref C0 :: veT) := ⟨_, _, _, _, _, _, _, _, _, _, _, _, _, xl14⟩
  have X15 : ExI K "BadBook" C15 (.ref C0 :: veT) := ⟨_, _, _, _, _, _, _, _, _, _, _, _, _, xl15⟩
  have X16 : ExI K "BadValue" C16 (.ref C0 :: veT) := ⟨_, _, _, _, _, _, _, _, _, _, _, _, _, xl16⟩
  have X17 : ExI K "BadPaper" C17 (.ref C0 :: veT) := ⟨_, _, _, _, _, _, _, _, _, _, _, _, _, xl17⟩
  have X18 : ExI K "Unlike" C18 (.ref C0 :: veT) := ⟨_, _, _, _, _, _, _, _, _, _, _, _, _, xl18⟩
  have X19 : ExI K "Nothing" C19 (.ref C0 :: veT) := ⟨_, _, _, _, _, _, _, _, _, _, _, _, _, xl19⟩
  have X20 : ExI K "BadText" C20 (.ref C0 :: veT) := ⟨_, _, _, _, _, _, _, _, _, _, _, _, _, xl20⟩
  have X21 : ExI K "TooMany" C21 (.ref C0 :: veT) := ⟨_, _, _, _, _, _, _, _, _, _, _, _, _, xl21⟩
  have E0 : ExG K C2 := ⟨by obtain ⟨cd, e, _⟩ := X2.cls; rw [e]; rfl, ga0, gg0, by rw [X2.sub]; simp, ha0, hn, ht, by have z := X2.sub (.type "object"); rw [show PySem.W.subIn K (.ref C2) (.type "object") = PySem.W.mroIn K C2 (.type "object") from rfl] at z; rw [z]; simp, X2.dct⟩
  have S0 : PySem.SupX.SupC PySem.Challenge.pw_quietcount_k15_entries_and_what_they_are K mg C2 m0 u0 := { cls := ⟨_, _, _, _, _, _, _, _, _, _, _, _, _, _, _, xl2, by simp [PySem.HandSPX.refsVE, PySem.HandSPX.veTail]⟩, sa := sa0, kC := kc0, exC := by rw [X2.sub]; simp, tyC := X2.ty, sup := su0, subV := by rw [X2.sub]; simp, opq := opq, noS := PySem.W.mg_none_of X G nos, mroS := by have z := X2.sub (.ref C2); rw [show PySem.W.subIn K (.ref C2) (.ref C2) = PySem.W.mroIn K C2 (.ref C2) from rfl] at z; rw [z]; simp, cell := ⟨_, _, _, lm0⟩, code := ⟨_, _, _, _, _, _, lu0, uf20, uf30⟩, top := by decide +kernel, iC := ⟨_, ic0⟩ }
  have I0 : PySem.SupX.Init1 K C2 i0 m0 u0 "value" := { fn := ⟨_, _, _, _, _, _, _, _, _, _, _, _, _, _, _, _, _, _, _, _, li0, ci0, ln0⟩, iC := ic0, tI := ti0, noN := nn0_value, ks := rfl, kc := rfl, kf := rfl, sf := by decide, hd := by decide, bd := fun _ _ _ _ _ _ _ _ _ _ _ _ => rfl }
  have E1 : ExG K C13 := ⟨by obtain ⟨cd, e, _⟩ := X13.cls; rw [e]; rfl, ga1, gg1, by rw [X13.sub]; simp, ha1, hn, ht, by have z := X13.sub (.type "object"); rw [show PySem.W.subIn K (.ref C13) (.type "object") = PySem.W.mroIn K C13 (.type "object") from rfl] at z; rw [z]; simp, X13.dct⟩
  have S1 : PySem.SupX.SupC PySem.Challenge.pw_quietcount_k15_entries_and_what_they_are K mg C13 m1 u1 := { cls := ⟨_, _, _, _, _, _, _, _, _, _, _, _, _, _, _, xl13, by simp [PySem.HandSPX.refsVE, PySem.HandSPX.veTail]⟩, sa := sa1, kC := kc1, exC := by rw [X13.sub]; simp, tyC := X13.ty, sup := su1, subV := by rw [X13.sub]; simp, opq := opq, noS := PySem.W.mg_none_of X G nos, mroS := by have z := X13.sub (.ref C13); rw [show PySem.W.subIn K (.ref C13) (.ref C13) = PySem.W.mroIn K C13 (.ref C13) from rfl] at z; rw [z]; simp, cell := ⟨_, _, _, lm1⟩, code := ⟨_, _, _, _, _, _, lu1, uf21, uf31⟩, top := by decide +kernel, iC := ⟨_, ic1⟩ }
  have I1 : PySem.SupX.Init1 K C13 i1 m1 u1 "value" := { fn := ⟨_, _, _, _, _, _, _, _, _, _, _, _, _, _, _, _, _, _, _, _, li1, ci1, ln1⟩, iC := ic1, tI := ti1, noN := nn1_value, ks := rfl, kc := rfl, kf := rfl, sf := by decide, hd := by decide, bd := fun _ _ _ _ _ _ _ _ _ _ _ _ => rfl }
  have g : GG PySem.Challenge.pw_quietcount_k15_entries_and_what_they_are K mg := { f_is_integer := _, fd_is_integer := _, F_is_integer := F0, b_is_integer := b0, g_is_integer := PySem.W.mg_of X G a0, f_is_between := _, fd_is_between := _, F_is_between := F1, b_is_between := b1, g_is_between := PySem.W.mg_of X G a1, f_is_listed := _, fd_is_listed := _, F_is_listed := F2, b_is_listed := b2, g_is_listed := PySem.W.mg_of X G a2, f_number_in := _, fd_number_in := _, F_number_in := F3, b_number_in := b3, g_number_in := PySem.W.mg_of X G a3, f_is_pair_of := _, fd_is_pair_of := _, F_is_pair_of := F4, b_is_pair_of := b4, g_is_pair_of := PySem.W.mg_of X G a4, f_fixed_stair := _, fd_fixed_stair := _, F_fixed_stair := F5, b_fixed_stair := b5, g_fixed_stair := PySem.W.mg_of X G a5, f_need_count := _, fd_need_count := _, F_need_count := F6, b_need_count := b6, g_need_count := PySem.W.mg_of X G a6, f_need_limit := _, fd_need_limit := _, F_need_limit := F7, b_need_limit := b7, g_need_limit := PySem.W.mg_of X G a7, f_is_stair := _, fd_is_stair := _, F_is_stair := F8, b_is_stair := b8, g_is_stair := PySem.W.mg_of X G a8, f_fixed_entry := _, fd_fixed_entry := _, F_fixed_entry := F9, b_fixed_entry := b9, g_fixed_entry := PySem.W.mg_of X G a9, f_worth_in := _, fd_worth_in := _, F_worth_in := F10, b_worth_in := b10, g_worth_in := PySem.W.mg_of X G a10, f_is_entry := _, fd_is_entry := _, F_is_entry := F11, b_is_entry := b11, g_is_entry := PySem.W.mg_of X G a11, f_need_entry := _, fd_need_entry := _, F_need_entry := F12, b_need_entry := b12, g_need_entry := PySem.W.mg_of X G a12, f_worth := _, fd_worth := _, F_worth := FD13, bd_worth := bd13, b_worth := b13, g_worth := PySem.W.mg_of X G a13, f__law_pen := _, fd__law_pen := _, F__law_pen := F14, b__law_pen := b14, g__law_pen := PySem.W.mg_of X G a14, f__law_draw := _, fd__law_draw := _, F__law_draw := F15, b__law_draw := b15, g__law_draw := PySem.W.mg_of X G a15, f__law_pick := _, fd__law_pick := _, F__law_pick := F16, b__law_pick := b16, g__law_pick := PySem.W.mg_of X G a16, f__law_heard_one := _, fd__law_heard_one := _, F__law_heard_one := F17, b__law_heard_one := b17, g__law_heard_one := PySem.W.mg_of X G a17, f__law_heard := _, fd__law_heard := _, F__law_heard := F18, b__law_heard := b18, g__law_heard := PySem.W.mg_of X G a18, f__law_number := _, fd__law_number := _, F__law_number := F19, b__law_number := b19, g__law_number := PySem.W.mg_of X G a19, f__law_by_limits := _, fd__law_by_limits := _, F__law_by_limits := F20, b__law_by_limits := b20, g__law_by_limits := PySem.W.mg_of X G a20, f__law_of_limits := _, fd__law_of_limits := _, F__law_of_limits := F21, b__law_of_limits := b21, g__law_of_limits := PySem.W.mg_of X G a21, f__law_pairs := _, fd__law_pairs := _, F__law_pairs := F22, b__law_pairs := b22, g__law_pairs := PySem.W.mg_of X G a22, f__law_most := _, fd__law_most := _, F__law_most := F23, b__law_most := b23, g__law_most := PySem.W.mg_of X G a23, f__law_stair := _, fd__law_stair := _, F__law_stair := F24, b__law_stair := b24, g__law_stair := PySem.W.mg_of X G a24, f__law_some_stair := _, fd__law_some_stair := _, F__law_some_stair := F25, b__law_some_stair := b25, g__law_some_stair := PySem.W.mg_of X G a25, f__law_own_worth := _, fd__law_own_worth := _, F__law_own_worth := F26, b__law_own_worth := b26, g__law_own_worth := PySem.W.mg_of X G a26, kb_is_entry_0_value := kbinds_of (fun z => by cases z) fun us ws h1 h2 => match us, h1, ws, h2 with | [], _, [_], _ => rfl, kb_worth_0_count_limit_entry := kbinds_ofD FD13 (by simp) (fun z => by cases z) fun _ _ _ _ _ _ _ us ws its h1 h2 h3 => match us, ws, its, h1, h2, h3 with | [], [_, _, _], [_], _, _, _ => ⟨_, rfl, rfl⟩, z_isinstance := PySem.W.mg_none_of X G z_isinstance, z_int := PySem.W.mg_none_of X G z_int, z_bool := PySem.W.mg_none_of X G z_bool, z_list := PySem.W.mg_none_of X G z_list, z_tuple := PySem.W.mg_none_of X G z_tuple, z_len := PySem.W.mg_none_of X G z_len, z_all := PySem.W.mg_none_of X G z_all, z_zip := PySem.W.mg_none_of X G z_zip, z_str := PySem.W.mg_none_of X G z_str, z_abs := PySem.W.mg_none_of X G z_abs, z_range := PySem.W.mg_none_of X G z_range, z_min := PySem.W.mg_none_of X G z_min, z_enumerate := PySem.W.mg_none_of X G z_enumerate, z_max := PySem.W.mg_none_of X G z_max, z_repr := PySem.W.mg_none_of X G z_repr, c_MOST_LIMIT := ⟨_, PySem.W.mg_of X G q_MOST_LIMIT⟩, c_WORDS := TU_WORDS, C_CountError := C0, gc_CountError := PySem.W.mg_of X G gc0, x_CountError := X0, C_BadName := C1, gc_BadName := PySem.W.mg_of X G gc1, x_BadName := X1, C_BadNumber := C2, gc_BadNumber := PySem.W.mg_of X G gc2, x_BadNumber := X2, C_BadCell := C3, gc_BadCell := PySem.W.mg_of X G gc3, x_BadCell := X3, C_BadSide := C4, gc_BadSide := PySem.W.mg_of X G gc4, x_BadSide := X4, C_BadLetter := C5, gc_BadLetter := PySem.W.mg_of X G gc5, x_BadLetter := X5, C_BadWay := C6, gc_BadWay := PySem.W.mg_of X G gc6, x_BadWay := X6, C_BadGame := C7, gc_BadGame := PySem.W.mg_of X G gc7, x_BadGame := X7, C_BadStanding := C8, gc_BadStanding := PySem.W.mg_of X G gc8, x_BadStanding := X8, C_BadPly := C9, gc_BadPly := PySem.W.mg_of X G gc9, x_BadPly := X9, C_BadClass := C10, gc_BadClass := PySem.W.mg_of X G gc10, x_BadClass := X10, C_BadKey := C11, gc_BadKey := PySem.W.mg_of X G gc11, x_BadKey := X11, C_BadStair := C12, gc_BadStair := PySem.W.mg_of X G gc12, x_BadStair := X12, C_BadEntry := C13, gc_BadEntry := PySem.W.mg_of X G gc13, x_BadEntry := X13, C_BadTable := C14, gc_BadTable := PySem.W.mg_of X G gc14, x_BadTable := X14, C_BadBook := C15, gc_BadBook := PySem.W.mg_of X G gc15, x_BadBook := X15, C_BadValue := C16, gc_BadValue := PySem.W.mg_of X G gc16, x_BadValue := X16, C_BadPaper := C17, gc_BadPaper := PySem.W.mg_of X G gc17, x_BadPaper := X17, C_Unlike := C18, gc_Unlike := PySem.W.mg_of X G gc18, x_Unlike := X18, C_Nothing := C19, gc_Nothing := PySem.W.mg_of X G gc19, x_Nothing := X19, C_BadText := C20, gc_BadText := PySem.W.mg_of X G gc20, x_BadText := X20, C_TooMany := C21, gc_TooMany := PySem.W.mg_of X G gc21, x_TooMany := X21, e_BadNumber := E0, fi_BadNumber := i0, cc_BadNumber := m0, cd_BadNumber := u0, s_BadNumber := S0, i_BadNumber := fun w => initF1 S0 I0, n_BadNumber_value := nn0_value, e_BadEntry := E1, fi_BadEntry := i1, cc_BadEntry := m1, cd_BadEntry := u1, s_BadEntry := S1, i_BadEntry := fun w => initF1 S1 I1, n_BadEntry_value := nn1_value }
  refine ⟨PySem.W.fnOf "law" "law" (defArgs st_law) (defBody st_law) (defScope st_law) .none kV27 dc27 pm27 an27 (.ref cL) ct27, [(cL, Pt)], spT [Pt] (spD ⟨K, mg⟩ 1 φ_law), fun p hp => ?_, fun p hp => ?_, fun p hp => ?_, fun s v => .of_eq rfl, fun H a ns hl hT hS => end_spT (K := ⟨K, mg⟩) math hl (fun P hP => ?_) hS, fun base _ _ hDk hTB => ?_⟩
  · rw [List.mem_singleton.mp hp]; exact tT
  · rw [List.mem_singleton.mp hp]; exact lp
  · rw [List.mem_singleton.mp hp]; exact PySem.W.codeHd_of_K X lh
  · rw [List.mem_singleton.mp hP]; exact hT (cL, Pt) (List.mem_singleton.mpr rfl)
  · rw [hPP]; exact ok_law g l27 c27 (hTB (cL, Pt) (List.mem_singleton.mpr rfl)) (let ⟨_, _, _, e1, e2, e3⟩ := hsm; ⟨_, _, _, hDk _ _ _ _ e1 e3, e2, e3⟩)
end DL

namespace DL
open PySem PySem.Spec PyProof.Rows L2
open He
set_option maxHeartbeats 0 in
theorem facts {l : PySem.W.OpenLaw} {w : World} {K : PySem.W.Frag} {h : Heap} {mg : Str → Option Value} {fa : Addr} (X : K.In h) (G : h.Ns mainGlobals mg) (hfa : mg "law" = some (.ref fa)) (hP : l.prog = PySem.Challenge.pw_quietcount_k15_entries_and_what_they_are) (c : SaysZ hd_fa hd_fn [("law", none)] hd_ins hd_ex true w h K) : TopAt l w K 63 "script" mg fa h := by
  obtain ⟨_, FD0⟩ := c.def0 0
  obtain ⟨oc0, od0, kV0, dc0, pm0, an0, cd0, ct0, sl0, l0, c0, k0⟩ := def_at FD0
  obtain ⟨_, FD1⟩ := c.def0 1
  obtain ⟨oc1, od1, kV1, dc1, pm1, an1, cd1, ct1, sl1, l1, c1, k1⟩ := def_at FD1
  obtain ⟨_, FD2⟩ := c.def0 2
  obtain ⟨oc2, od2, kV2, dc2, pm2, an2, cd2, ct2, sl2, l2, c2, k2⟩ := def_at FD2
  obtain ⟨_, FD3⟩ := c.def0 3
  obtain ⟨oc3, od3, kV3, dc3, pm3, an3, cd3, ct3, sl3, l3, c3, k3⟩ := def_at FD3
  obtain ⟨_, FD4⟩ := c.def0 4
  obtain ⟨oc4, od4, kV4, dc4, pm4, an4, cd4, ct4, sl4, l4, c4, k4⟩ := def_at FD4
  obtain ⟨_, FD5⟩ := c.def0 5
  obtain ⟨oc5, od5, kV5, dc5, pm5, an5, cd5, ct5, sl5, l5, c5, k5⟩ := def_at FD5
  obtain ⟨_, FD6⟩ := c.def0 6
  obtain ⟨oc6, od6, kV6, dc6, pm6, an6, cd6, ct6, sl6, l6, c6, k6⟩ := def_at FD6
  obtain ⟨_, FD7⟩ := c.def0 7
  obtain ⟨oc7, od7, kV7, dc7, pm7, an7, cd7, ct7, sl7, l7, c7, k7⟩ := def_at FD7
  obtain ⟨_, FD8⟩ := c.def0 8
  obtain ⟨oc8, od8, kV8, dc8, pm8, an8, cd8, ct8, sl8, l8, c8, k8⟩ := def_at FD8
  obtain ⟨_, FD9⟩ := c.def0 9
  obtain ⟨oc9, od9, kV9, dc9, pm9, an9, cd9, ct9, sl9, l9, c9, k9⟩ := def_at FD9
  obtain ⟨_, FD10⟩ := c.def0 10
  obtain ⟨oc10, od10, kV10, dc10, pm10, an10, cd10, ct10, sl10, l10, c10, k10⟩ := def_at FD10
  obtain ⟨_, FD11⟩ := c.def0 11
  obtain ⟨oc11, od11, kV11, dc11, pm11, an11, cd11, ct11, sl11, l11, c11, k11⟩ := def_at FD11
  obtain ⟨_, FD12⟩ := c.def0 12
  obtain ⟨oc12, od12, kV12, dc12, pm12, an12, cd12, ct12, sl12, l12, c12, k12⟩ := def_at FD12
  obtain ⟨fd13, FD13⟩ := c.def0 13
  obtain ⟨_, FD14⟩ := c.def0 14
  obtain ⟨oc14, od14, kV14, dc14, pm14, an14, cd14, ct14, sl14, l14, c14, k14⟩ := def_at FD14
  obtain ⟨_, FD15⟩ := c.def0 15
  obtain ⟨oc15, od15, kV15, dc15, pm15, an15, cd15, ct15, sl15, l15, c15, k15⟩ := def_at FD15
  obtain ⟨_, FD16⟩ := c.def0 16
  obtain ⟨oc16, od16, kV16, dc16, pm16, an16, cd16, ct16, sl16, l16, c16, k16⟩ := def_at FD16
  obtain ⟨_, FD17⟩ := c.def0 17
  obtain ⟨oc17, od17, kV17, dc17, pm17, an17, cd17, ct17, sl17, l17, c17, k17⟩ := def_at FD17
  obtain ⟨_, FD18⟩ := c.def0 18
  obtain ⟨oc18, od18, kV18, dc18, pm18, an18, cd18, ct18, sl18, l18, c18, k18⟩ := def_at FD18
  obtain ⟨_, FD19⟩ := c.def0 19
  obtain ⟨oc19, od19, kV19, dc19, pm19, an19, cd19, ct19, sl19, l19, c19, k19⟩ := def_at FD19
  obtain ⟨_, FD20⟩ := c.def0 20
  obtain ⟨oc20, od20, kV20, dc20, pm20, an20, cd20, ct20, sl20, l20, c20, k20⟩ := def_at FD20
  obtain ⟨_, FD21⟩ := c.def0 21
  obtain ⟨oc21, od21, kV21, dc21, pm21, an21, cd21, ct21, sl21, l21, c21, k21⟩ := def_at FD21
  obtain ⟨_, FD22⟩ := c.def0 22
  obtain ⟨oc22, od22, kV22, dc22, pm22, an22, cd22, ct22, sl22, l22, c22, k22⟩ := def_at FD22
  obtain ⟨_, FD23⟩ := c.def0 23
  obtain ⟨oc23, od23, kV23, dc23, pm23, an23, cd23, ct23, sl23, l23, c23, k23⟩ := def_at FD23
  obtain ⟨_, FD24⟩ := c.def0 24
  obtain ⟨oc24, od24, kV24, dc24, pm24, an24, cd24, ct24, sl24, l24, c24, k24⟩ := def_at FD24
  obtain ⟨_, FD25⟩ := c.def0 25
  obtain ⟨oc25, od25, kV25, dc25, pm25, an25, cd25, ct25, sl25, l25, c25, k25⟩ := def_at FD25
  obtain ⟨_, FD26⟩ := c.def0 26
  obtain ⟨oc26, od26, kV26, dc26, pm26, an26, cd26, ct26, sl26, l26, c26, k26⟩ := def_at FD26
  obtain ⟨_, FD27⟩ := c.def0 27
  obtain ⟨oc27, od27, kV27, dc27, pm27, an27, cd27, ct27, sl27, l27, c27, k27⟩ := def_at FD27
  obtain ⟨cL, rfl⟩ := codeIn_ref c27
  have ecL : codeOf K ("law", none) = cL := codeOf_eq l27 rfl
  obtain ⟨t_MOST_LIMIT, q_MOST_LIMIT⟩ := c.int 65
  have more : hd_ex K = true := c.x.more
  unfold hd_ex at more
  obtain ⟨e0, more⟩ := ba more
  obtain ⟨e1, more⟩ := ba more
  obtain ⟨e2, more⟩ := ba more
  obtain ⟨e3, more⟩ := ba more
  obtain ⟨e4, more⟩ := ba more
  obtain ⟨e5, more⟩ := ba more
  obtain ⟨e6, more⟩ := ba more
  obtain ⟨e7, more⟩ := ba more
  obtain ⟨e8, more⟩ := ba more
  obtain ⟨e9, more⟩ := ba more
  obtain ⟨e10, more⟩ := ba more
  obtain ⟨e11, more⟩ := ba more
  obtain ⟨e12, more⟩ := ba more
  obtain ⟨e13, more⟩ := ba more
  obtain ⟨e14, more⟩ := ba more
  obtain ⟨e15, more⟩ := ba more
  obtain ⟨e16, more⟩ := ba more
  obtain ⟨e17, more⟩ := ba more
  obtain ⟨e18, more⟩ := ba more
  obtain ⟨e19, more⟩ := ba more
  obtain ⟨e20, more⟩ := ba more
  obtain ⟨e21, more⟩ := ba more
  obtain ⟨e22, more⟩ := ba more
  obtain ⟨e23, more⟩ := ba more
  obtain ⟨e24, more⟩ := ba more
  obtain ⟨e25, more⟩ := ba more
  obtain ⟨hn, ht, opq, nos⟩ := genB_ok e0
  obtain ⟨_, _, _, _, _, _, _, _, _, _, _, _, _, xl0⟩ := clsB_ok e1
  obtain ⟨_, _, _, _, _, _, _, _, _, _, _, _, _, xl1⟩ := clsB_ok e2
  obtain ⟨_, _, _, _, _, _, _, _, _, _, _, _, _, xl2⟩ := clsB_ok e3
  obtain ⟨_, _, _, _, _, _, _, _, _, _, _, _, _, xl3⟩ := clsB_ok e4
  obtain ⟨_, _, _, _, _, _, _, _, _, _, _, _, _, xl4⟩ := clsB_ok e5
  obtain ⟨_, _, _, _, _, _, _, _, _, _, _, _, _, xl5⟩ := clsB_ok e6
  obtain ⟨_, _, _, _, _, _, _, _, _, _, _, _, _, xl6⟩ := clsB_ok e7
  obtain ⟨_, _, _, _, _, _, _, _, _, _, _, _, _, xl7⟩ := clsB_ok e8
  obtain ⟨_, _, _, _, _, _, _, _, _, _, _, _, _, xl8⟩ := clsB_ok e9
  obtain ⟨_, _, _, _, _, _, _, _, _, _, _, _, _, xl9⟩ := clsB_ok e10
  obtain ⟨_, _, _, _, _, _, _, _, _, _, _, _, _, xl10⟩ := clsB_ok e11
  obtain ⟨_, _, _, _, _, _, _, _, _, _, _, _, _, xl11⟩ := clsB_ok e12
  obtain ⟨_, _, _, _, _, _, _, _, _, _, _, _, _, xl12⟩ := clsB_ok e13
  obtain ⟨_, _, _, _, _, _, _, _, _, _, _, _, _, xl13⟩ := clsB_ok e14
  obtain ⟨_, _, _, _, _, _, _, _, _, _, _, _, _, xl14⟩ := clsB_ok e15
  obtain ⟨_, _, _, _, _, _, _, _, _, _, _, _, _, xl15⟩ := clsB_ok e16
  obtain ⟨_, _, _, _, _, _, _, _, _, _, _, _, _, xl16⟩ := clsB_ok e17
  obtain ⟨_, _, _, _, _, _, _, _, _, _, _, _, _, xl17⟩ := clsB_ok e18
  obtain ⟨_, _, _, _, _, _, _, _, _, _, _, _, _, xl18⟩ := clsB_ok e19
  obtain ⟨_, _, _, _, _, _, _, _, _, _, _, _, _, xl19⟩ := clsB_ok e20
  obtain ⟨_, _, _, _, _, _, _, _, _, _, _, _, _, xl20⟩ := clsB_ok e21
  obtain ⟨_, _, _, _, _, _, _, _, _, _, _, _, _, xl21⟩ := clsB_ok e22
  have E0 := excB_ok e23
  obtain ⟨m0, u0, _, _, _, _, _, _, _, _, _, _, _, _, _, _, _, _, li0, ci0, lu0, uf20, uf30, lm0⟩ := initB_ok (d := ⟨"BadNumber", "BadNumber.__init__", defArgs in_BadNumber, defBody in_BadNumber, defScope in_BadNumber⟩) rfl E0.init (c.init 0)
  have E1 := excB_ok e24
  obtain ⟨m1, u1, _, _, _, _, _, _, _, _, _, _, _, _, _, _, _, _, li1, ci1, lu1, uf21, uf31, lm1⟩ := initB_ok (d := ⟨"BadEntry", "BadEntry.__init__", defArgs in_BadEntry, defBody in_BadEntry, defScope in_BadEntry⟩) rfl E1.init (c.init 1)
  have TU_WORDS := c.tup X G 66 (x := "WORDS") rfl e25 (by decide)
  have hT := c.x.empty ("law", none) (by simp)
  have hO := c.x.out ("law", none) (by simp)
  have hH := c.x.hd ("law", none) (by simp)
  unfold cT at hT hO hH
  rw [ecL] at hT hO hH
  dsimp only at hT hO hH
  exact all_mk X G hfa hP (c.glo 0) l0 c0 k0 (c.glo 1) l1 c1 k1 (c.glo 2) l2 c2 k2 (c.glo 3) l3 c3 k3 (c.glo 4) l4 c4 k4 (c.glo 5) l5 c5 k5 (c.glo 6) l6 c6 k6 (c.glo 7) l7 c7 k7 (c.glo 8) l8 c8 k8 (c.glo 9) l9 c9 k9 (c.glo 10) l10 c10 k10 (c.glo 11) l11 c11 k11 (c.glo 12) l12 c12 k12 (c.glo 13) FD13 (c.glo 14) l14 c14 k14 (c.glo 15) l15 c15 k15 (c.glo 16) l16 c16 k16 (c.glo 17) l17 c17 k17 (c.glo 18) l18 c18 k18 (c.glo 19) l19 c19 k19 (c.glo 20) l20 c20 k20 (c.glo 21) l21 c21 k21 (c.glo 22) l22 c22 k22 (c.glo 23) l23 c23 k23 (c.glo 24) l24 c24 k24 (c.glo 25) l25 c25 k25 (c.glo 26) l26 c26 k26 (c.glo 27) l27 c27 k27 (c.free 50) (c.free 51) (c.free 52) (c.free 53) (c.free 54) (c.free 55) (c.free 56) (c.free 57) (c.free 58) (c.free 59) (c.free 60) (c.free 61) (c.free 62) (c.free 63) (c.free 64) q_MOST_LIMIT TU_WORDS (c.glo 28) (c.glo 29) (c.glo 30) (c.glo 31) (c.glo 32) (c.glo 33) (c.glo 34) (c.glo 35) (c.glo 36) (c.glo 37) (c.glo 38) (c.glo 39) (c.glo 40) (c.glo 41) (c.glo 42) (c.glo 43) (c.glo 44) (c.glo 45) (c.glo 46) (c.glo 47) (c.glo 48) (c.glo 49) xl0 xl1 xl2 xl3 xl4 xl5 xl6 xl7 xl8 xl9 xl10 xl11 xl12 xl13 xl14 xl15 xl16 xl17 xl18 xl19 xl20 xl21 hn ht opq nos E0.sa E0.gat E0.gg E0.ha E0.ic E0.ti E0.kc E0.su li0 ci0 (by decide +kernel) lu0 uf20 uf30 lm0 (E0.nn "value" (by decide)) E1.sa E1.gat E1.gg E1.ha E1.ic E1.ti E1.kc E1.su li1 ci1 (by decide +kernel) lu1 uf21 uf31 lm1 (E1.nn "value" (by decide)) (c.sm rfl) hH hO hT
end DL
open PySem PySem.W PyProof.Rows
set_option maxHeartbeats 0 in
theorem PySem.Challenge.cw_quietcount_k15_entries_and_what_they_are_holds : PySem.Challenge.rw_quietcount_k15_entries_and_what_they_are.Holds := by
  w_on; o_law
  refine HandSHeadRun.head_any (r := OpenLaw.row PySem.Challenge.rw_quietcount_k15_entries_and_what_they_are) (q := view (OpenLaw.row PySem.Challenge.rw_quietcount_k15_entries_and_what_they_are).prog [59]) (H := DL.hd_hk) (ob := DL.hd_ob) (M := 20000) (loose := DL.hd_names) (d := HandSHeadRun.topDef (OpenLaw.row PySem.Challenge.rw_quietcount_k15_entries_and_what_they_are).prog 59) (kwd := []) DL.hd_eq
    (by kernel_rfl) (fun s => by kernel_rfl) DL.hd_run (by kernel_rfl) (by kernel_rfl) (by kernel_rfl) (by rfl) (by first | assumption | decide +kernel) (by decide +kernel) ⟨rfl, rfl, rfl, rfl, rfl, by decide +kernel⟩ ?hw ?hc
  case hw => w_witness2
  case hc =>
    refine DL.walkTE (l := PySem.Challenge.rw_quietcount_k15_entries_and_what_they_are) (n := 63) (x := "script") rfl (by decide) (by kernel_rfl) ?F
    intro w mg fa h Y G hmg0
    obtain ⟨K, KX, c⟩ := Y
    have hmg : mg ("law" : PySem.Str) = some (.ref fa) := by
      have e : (HandSHeadRun.topDef (OpenLaw.row PySem.Challenge.rw_quietcount_k15_entries_and_what_they_are).prog 59).name = ("law" : PySem.Str) := by kernel_rfl
      rw [← e]
      exact hmg0
    exact ⟨K, KX, DL.facts KX G hmg rfl c⟩

