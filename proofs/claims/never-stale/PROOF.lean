import PyProof.Rows.All
import Wide.All
import OpenK.AllK
import Wide.FinOn
import Wide.Once
import Lean
import KE.KStateDown
import KE.KSuper
import KE.KOpsOwn
import KE.KDictWalk
import KE.KDictDisplayH
import HandS.ForMost
import HandS.Exc
import HandS.TryOnly
import HandS.ExcOwn
import HandS.WordsExc
import HandS.More
import HandS.Star
import HandS.Small
import HandS.MakeKw
import HandS.MakeKwOnly
import HandS.Property
import HandS.CallLocal
import HandS.IsInst
import HandS.Flow
import HandS.Style
import HandS.Conv
import HandS.Zip
import HandS.TupAny
import HandS.DictComp
import HandS.DictTup
import HandS.Walk
import HandS.Wide
import HandS.Deep
import HandS.Defaults
import HandS.SlotsOwn
import HandS.Head0
import HandS.Head1
import HandS.Head2
import HandS.HeadEnd
import HandS.HeadHook1
import HandS.HeadHook2
import HandS.HeadHook3
import HandS.HeadHook4
import HandS.HeadWalk
import HandS.EndBits
import KE.GoesEnum
import HandS.Nested
import KE.KParD
import PySem.Challenge.RW_closenews_k52_whole_never_stale
section
set_option Elab.async false
set_option linter.all false
set_option maxRecDepth 100000
set_option maxHeartbeats 4000000
/-! the head's facts: defs, classes, names, by one Hook -/
namespace CN
open PySem PySem.Spec PyProof.Rows L2
/-- a def: where it stands, its names, its statement; keyword-only defaults; the class whose cell it holds (super) -/
structure DC where
  ad : PySem.W.Frag → Addr
  name : Str
  qual : Str
  st : Stmt
  kwd : List (Str × He.Dv) := []
  cl : Option Str := none
abbrev FnV : Type := Option (Str × Str × Arguments × FuncBody × Scope × Addr × List Str × Addr)
def fnV (K : PySem.W.Frag) (a : Addr) : FnV := match K.lookup a with
  | some ⟨_, _, .func fd, _⟩ => some (fd.name, fd.qualname, fd.params, fd.body, fd.scope, fd.globals, fd.closure.map (·.1), fd.builtins)
  | _ => none
def DC.clo (d : DC) : List Str := match d.cl with
  | none => []
  | some _ => ["__class__"]
def DC.val (d : DC) : FnV := some (d.name, d.qual, defArgs d.st, .stmts (defBody d.st), defScope d.st, mainGlobals, d.clo, builtinsNs)
def DC.kws (K : PySem.W.Frag) (d : DC) : List (Str × V) := d.kwd.map fun q => (q.1, q.2.v K)
def cellB (K : PySem.W.Frag) (c : Addr) (C : Str) : Bool := match K.lookup c with
  | some ⟨_, _, .cell (some (.ref a)), _⟩ => decide (a = He.ga K C)
  | _ => false
def fileB (K : PySem.W.Frag) (cd : Value) : Bool := match cd with
  | .ref c => (match K.lookup c with
    | some ⟨_, _, .fields vs, _⟩ => (match (vs[2]? : Option Value) with
      | some (.str f _) => decide (f = Str.ofString "/claim/cut.py")
      | _ => false)
    | _ => false)
  | _ => false
def DC.clB (K : PySem.W.Frag) (d : DC) (fd : FuncData) : Bool := match d.cl with
  | none => true
  | some C => (match fd.closure with
    | [(_, c)] => cellB K c C && fileB K fd.code
    | _ => false)
def DC.ok (K : PySem.W.Frag) (d : DC) : Bool := PySem.W.keepIn K (.ref (d.ad K)) && (match K.lookup (d.ad K) with
  | some ⟨_, _, .func fd, _⟩ => PySem.W.codeIn K fd.code d.qual && (He.dflB K fd.defaults [] && (He.kwdB K fd.kwdefaults (d.kws K) && d.clB K fd))
  | _ => false)
theorem dc_parts {K : PySem.W.Frag} {d : DC} (e : fnV K (d.ad K) = d.val) (c : d.ok K = true) :
    ∃ (oc : Value) (od : Option Addr) (osl : Array (Option Value)) (clo : List (Str × Addr)) (kV doc pm : Value) (an : Option Addr) (cdv ct : Value),
      K.lookup (d.ad K) = some ⟨oc, od, .func (PySem.W.fnX d.name d.qual (defArgs d.st) (defBody d.st) (defScope d.st) clo .none kV doc pm an cdv ct), osl⟩ ∧ clo.map (·.1) = d.clo ∧ PySem.W.codeIn K cdv d.qual = true ∧ KwdV K kV (d.kws K) ∧
      d.clB K (PySem.W.fnX d.name d.qual (defArgs d.st) (defBody d.st) (defScope d.st) clo .none kV doc pm an cdv ct) = true ∧ PySem.W.keepIn K (.ref (d.ad K)) = true := by
  obtain ⟨kp, c2⟩ := He.ba c
  unfold fnV at e
  cases q : K.lookup (d.ad K) with
  | none =>
    rw [q] at c2
    cases c2
  | some o =>
    obtain ⟨oc, od, dt, osl⟩ := o
    rw [q] at c2 e
    cases dt with
    | func fd =>
      obtain ⟨n1, n2, n3, n4, n5, n6, n7, n8, n9, n10, n11, n12, n13, n14, n15⟩ := fd
      have e2 : (some (n1, n2, n3, n4, n5, n6, n7.map (·.1), n15) : FnV) = some (d.name, d.qual, defArgs d.st, .stmts (defBody d.st), defScope d.st, mainGlobals, d.clo, builtinsNs) := e
      simp only [Option.some.injEq, Prod.mk.injEq] at e2
      obtain ⟨h1, h2, h3, h4, h5, h6, h7, h8⟩ := e2
      subst h1 h2 h3 h4 h5 h6 h8
      have c3 : (PySem.W.codeIn K n13 d.qual && (He.dflB K n8 [] && (He.kwdB K n9 (d.kws K) && d.clB K ⟨d.name, d.qual, defArgs d.st, .stmts (defBody d.st), defScope d.st, mainGlobals, n7, n8, n9, n10, n11, n12, n13, n14, builtinsNs⟩))) = true := c2
      obtain ⟨k1, k2⟩ := He.ba c3
      obtain ⟨k3, k4⟩ := He.ba k2
      obtain ⟨k5, k6⟩ := He.ba k4
      rcases He.dflB_ok k3 with ⟨_, e8⟩ | ⟨e8, _⟩
      · subst e8
        exact ⟨oc, od, osl, n7, n9, n10, n11, n12, n13, n14, rfl, h7, k1, He.kwdB_ok k5, k6, kp⟩
      · exact absurd rfl e8
    | _ => cases c2
theorem dc_fun {K : PySem.W.Frag} {d : DC} (e : fnV K (d.ad K) = d.val) (c : d.ok K = true) (hc : d.cl = none) : ∃ fd, FunD K d.name d.qual (defArgs d.st) (defBody d.st) (defScope d.st) [] (d.kws K) (d.ad K) fd := by
  obtain ⟨oc, od, osl, clo, kV, doc, pm, an, cdv, ct, h1, h2, h3, h4, _, kp⟩ := dc_parts e c
  have hn : clo = [] := by
    unfold DC.clo at h2
    rw [hc] at h2
    exact List.map_eq_nil_iff.mp h2
  subst hn
  exact ⟨_, ⟨oc, od, .none, kV, doc, pm, an, cdv, ct, osl, rfl, h1, h3, .inl ⟨rfl, rfl⟩, h4⟩, kp⟩
/-- a def that says super() -/
structure FunC (K : PySem.W.Frag) (x qual : Str) (st : Stmt) (C : Str) (f : Addr) : Prop where
  ex : ∃ (oc : Value) (od : Option Addr) (osl : Array (Option Value)) (cc cda : Addr) (kV doc pm : Value) (an : Option Addr) (ct : Value),
    K.lookup f = some ⟨oc, od, .func (PySem.W.fnX x qual (defArgs st) (defBody st) (defScope st) [("__class__", cc)] .none kV doc pm an (.ref cda) ct), osl⟩ ∧ PySem.W.codeIn K (.ref cda) qual = true ∧
    (∃ (cl : Value) (cld : Option Addr) (csl : Array (Option Value)), K.lookup cc = some ⟨cl, cld, .cell (some (.ref (He.ga K C))), csl⟩) ∧
    ∃ (ccl : Value) (cdd : Option Addr) (vs : Array Value) (ccs : Array (Option Value)) (tf : Tok), K.lookup cda = some ⟨ccl, cdd, .fields vs, ccs⟩ ∧ vs[2]? = some (.str (Str.ofString "/claim/cut.py") tf)
  kp : PySem.W.keepIn K (.ref f) = true
theorem dc_super {K : PySem.W.Frag} {d : DC} {C : Str} (e : fnV K (d.ad K) = d.val) (c : d.ok K = true) (hc : d.cl = some C) : FunC K d.name d.qual d.st C (d.ad K) := by
  obtain ⟨oc, od, osl, clo, kV, doc, pm, an, cdv, ct, h1, h2, h3, h4, h5, kp⟩ := dc_parts e c
  unfold DC.clo at h2
  unfold DC.clB at h5
  rw [hc] at h2 h5
  obtain ⟨⟨y, cc⟩, rfl⟩ : ∃ z, clo = [z] := by
    match clo, h2 with
    | [z], _ => exact ⟨z, rfl⟩
  have hy : y = "__class__" := by simpa using h2
  subst hy
  obtain ⟨k1, k2⟩ := He.ba (show (cellB K cc C && fileB K cdv) = true from h5)
  have cell : ∃ (cl : Value) (cld : Option Addr) (csl : Array (Option Value)), K.lookup cc = some ⟨cl, cld, .cell (some (.ref (He.ga K C))), csl⟩ := by
    unfold cellB at k1
    split at k1
    · rename_i cl cld a csl q
      rw [q]
      have ea := of_decide_eq_true k1
      rw [ea]
      exact ⟨cl, cld, csl, rfl⟩
    · cases k1
  unfold fileB at k2
  split at k2
  · rename_i cda
    split at k2
    · rename_i ccl cdd vs ccs q
      split at k2
      · rename_i f t q2
        have ef := of_decide_eq_true k2
        subst ef
        exact ⟨⟨oc, od, osl, cc, cda, kV, doc, pm, an, ct, h1, h3, cell, ccl, cdd, vs, ccs, t, q, q2⟩, kp⟩
      · cases k2
    · cases k2
  · cases k2
/-! ### the Hook -/
/-- what is looked at: the names' objects, the classes' tables, the defs, their code (no more: each look-up walks the list) -/
def nmRefs (names : List Str) (o : Option Obj) : List Addr := match o with
  | some ⟨_, _, .dict es _, _⟩ => es.toList.filterMap fun e => match e.key, e.val with
    | .str x _, .ref a => if names.contains x then some a else none
    | _, _ => none
  | _ => []
def clsNs (o : Option Obj) : List Addr := match o with
  | some ⟨_, _, .cls cd, _⟩ => [cd.ns]
  | _ => []
def dcRefs (o : Option Obj) : List Addr := match o with
  | some ⟨_, _, .dict es _, _⟩ => es.toList.flatMap fun e => He.refV e.val
  | _ => []
def fnRefs (o : Option Obj) : List Addr := match o with
  | some ⟨_, _, .func fd, _⟩ => He.refV fd.code ++ (He.refV fd.kwdefaults ++ fd.closure.map (·.2))
  | some ⟨.type c, _, .fields vs, _⟩ => if c == "property" then vs.toList.flatMap He.refV else []
  | _ => []
def frL {α : Type} : List Addr → (List Addr → α) → α
  | [], k => k []
  | a :: r, k => HandSHeadRun.frNat a fun a => frL r fun r => k (a :: r)
theorem frL_eq {α : Type} : ∀ (l : List Addr) (k : List Addr → α), frL l k = k l
  | [], _ => rfl
  | a :: r, k => by
    show HandSHeadRun.frNat a (fun a => frL r fun r => k (a :: r)) = _
    rw [HandSHeadRun.frNat_eq, frL_eq r]
def asE {α : Type} (names : List Str) (g : Addr → Option Obj) (k : List Addr → α) : α :=
  frL (nmRefs names (g mainGlobals)) fun a1 => frL (a1.flatMap fun a => clsNs (g a)) fun a2 => frL (a2.flatMap fun a => dcRefs (g a)) fun a3 => frL ((a1 ++ a3).flatMap fun a => fnRefs (g a)) fun a4 =>
  frL (a4.flatMap fun a => fnRefs (g a)) fun a5 => k (mainGlobals :: (a1 ++ (a2 ++ (a3 ++ (a4 ++ (a5 ++ [cStatics]))))))
def frK {α : Type} (g : Addr → Option Obj) : List Addr → (PySem.W.Frag → α) → α
  | [], k => k []
  | a :: r, k => match g a with
    | some o => frK g r fun K => k ((a, o) :: K)
    | none => frK g r k
theorem frK_eq {α : Type} (g : Addr → Option Obj) : ∀ (l : List Addr) (k : PySem.W.Frag → α), frK g l k = k (He.frG g l)
  | [], _ => rfl
  | a :: r, k => by
    show (match g a with
      | some o => frK g r fun K => k ((a, o) :: K)
      | none => frK g r k) = _
    unfold He.frG
    rw [List.filterMap_cons]
    cases h : g a with
    | none => exact frK_eq g r k
    | some o => exact frK_eq g r fun K => k ((a, o) :: K)
theorem asE_at {α : Type} (names : List Str) (g : Addr → Option Obj) : ∃ l : List Addr, ∀ {α : Type} (k : List Addr → α), asE names g k = k l := by
  refine ⟨asE names g id, fun k => ?_⟩
  unfold asE
  simp only [frL_eq, id]
abbrev AlC : Type := (Bool × List FnV) × List (Option (List (Option (Str × Int))))
def obsC (fa : List He.Fa) (ds : List DC) (xs : List (PySem.W.Frag → Bool)) (ts : List He.Tab) (K : PySem.W.Frag) : AlC :=
  (((fa.all fun f => f.ok K) && (ds.all fun d => d.ok K) && (xs.all fun x => x K), ds.map fun d => fnV K (d.ad K)), ts.map fun t => He.dicW K (t.1 K))
def valC (ds : List DC) (ts : List He.Tab) (w : World) : AlC := ((true, ds.map DC.val), ts.map fun t => some (He.keysIn w.params t.2))
def obsCG (nm : List Str) (fa : List He.Fa) (ds : List DC) (xs : List (PySem.W.Frag → Bool)) (ts : List He.Tab) (g : Addr → Option Obj) : AlC := asE nm g fun as => frK g as fun K => obsC fa ds xs ts K
def SaysC (fa : List He.Fa) (ds : List DC) (xs : List (PySem.W.Frag → Bool)) (ts : List He.Tab) (w : World) (K : PySem.W.Frag) : Prop := obsC fa ds xs ts K = valC ds ts w
theorem saysC_of {nm : List Str} {fa : List He.Fa} {ds : List DC} {xs : List (PySem.W.Frag → Bool)} {ts : List He.Tab} {w : World} {h : Heap} (e : obsCG nm fa ds xs ts h.get? = valC ds ts w) : ∃ K : PySem.W.Frag, K.In h ∧ SaysC fa ds xs ts w K := by
  obtain ⟨l, hl⟩ := asE_at (α := AlC) nm h.get?
  unfold obsCG at e
  rw [hl, frK_eq] at e
  exact ⟨_, He.frG_in, e⟩
def hookC (nm : List Str) (fa : List He.Fa) (ds : List DC) (xs : List (PySem.W.Frag → Bool)) (ts : List He.Tab) : PySem.W.Hook where
  α := AlC
  obs := fun s => obsCG nm fa ds xs ts s.heap.get?
  val := fun w => valC ds ts w
  says := fun w h => ∃ K : PySem.W.Frag, K.In h ∧ SaysC fa ds xs ts w K
  of := fun _ _ e => saysC_of e
  keeps := fun _ _ _ ⟨K, hK, c⟩ k => ⟨K, PySem.W.Frag.In.keeps hK k, c⟩
theorem obsCG_eq {nm : List Str} {fa : List He.Fa} {ds : List DC} {xs : List (PySem.W.Frag → Bool)} {ts : List He.Tab} {g : Addr → Option Obj} {s : Shared} (h : ∀ a, g a = s.heap.get? a) : obsCG nm fa ds xs ts g = (hookC nm fa ds xs ts).obs s := by
  have e : g = s.heap.get? := funext h
  rw [e] <;> rfl
section
variable {fa : List He.Fa} {ds : List DC} {xs : List (PySem.W.Frag → Bool)} {ts : List He.Tab} {w : World} {K : PySem.W.Frag}
theorem SaysC.b (c : SaysC fa ds xs ts w K) : (fa.all fun f => f.ok K) = true ∧ (ds.all fun d => d.ok K) = true ∧ (xs.all fun x => x K) = true := by
  have h : ((fa.all fun f => f.ok K) && (ds.all fun d => d.ok K) && (xs.all fun x => x K)) = true := congrArg (fun z : AlC => z.1.1) c
  obtain ⟨h1, h3⟩ := He.ba h
  obtain ⟨h1, h2⟩ := He.ba h1
  exact ⟨h1, h2, h3⟩
theorem SaysC.facts (c : SaysC fa ds xs ts w K) {f : He.Fa} (h : f ∈ fa) : f.ok K = true := List.all_eq_true.mp c.b.1 f h
theorem SaysC.ex (c : SaysC fa ds xs ts w K) (i : Nat) {x : PySem.W.Frag → Bool} (h : xs[i]? = some x := by rfl) : x K = true := List.all_eq_true.mp c.b.2.2 x (List.mem_of_getElem? h)
theorem SaysC.dfn (c : SaysC fa ds xs ts w K) (i : Nat) {d : DC} (h : ds[i]? = some d) : fnV K (d.ad K) = d.val ∧ d.ok K = true := by
  refine ⟨?_, List.all_eq_true.mp c.b.2.1 d (List.mem_of_getElem? h)⟩
  have e : (ds.map fun d => fnV K (d.ad K)) = ds.map DC.val := congrArg (fun z : AlC => z.1.2) c
  have e2 : (ds.map fun d => fnV K (d.ad K))[i]? = (ds.map DC.val)[i]? := by rw [e]
  rw [List.getElem?_map, List.getElem?_map, h] at e2
  exact Option.some.inj e2
theorem SaysC.tab (c : SaysC fa ds xs ts w K) (i : Nat) {t : He.Tab} (h : ts[i]? = some t := by rfl) : ∃ es n, KDict K w (t.1 K) es n := by
  have e : ts.map (fun t => He.dicW K (t.1 K)) = ts.map fun t => some (He.keysIn w.params t.2) := congrArg (fun z : AlC => z.2) c
  have e2 : (ts.map fun t => He.dicW K (t.1 K))[i]? = (ts.map fun t => some (He.keysIn w.params t.2))[i]? := by rw [e]
  rw [List.getElem?_map, List.getElem?_map, h] at e2
  exact He.dicW_ok (Option.some.inj e2)
end
/-! ### properties -/
def pAd (K : PySem.W.Frag) (C f : Str) : Addr := He.ma K (He.ga K C) f
def gAd (K : PySem.W.Frag) (C f : Str) : Addr := match PySem.W.recIn K (pAd K C f) "property" with
  | some (.ref g :: _) => g
  | _ => 0
def propB (C f : Str) (K : PySem.W.Frag) : Bool := He.eqO (PySem.W.findIn K (.ref (He.ga K C)) f) (some (some (.ref (pAd K C f)))) && (He.eqO (PySem.W.specialIn K (.ref (pAd K C f)) "__get__") (some (some (.builtin "property.__get__"))) &&
  (decide (PySem.W.takesIn K (.ref (pAd K C f)) = some true) && (match PySem.W.recIn K (pAd K C f) "property" with
    | some (.ref _ :: _) => true
    | _ => false)))
theorem propB_ok {K : PySem.W.Frag} {C f : Str} (h : propB C f K = true) : PropOf K (He.ga K C) f (pAd K C f) (gAd K C f) := by
  obtain ⟨h1, h⟩ := He.ba h
  obtain ⟨h2, h⟩ := He.ba h
  obtain ⟨h3, h4⟩ := He.ba h
  refine ⟨He.eqO_ok h1, He.eqO_ok h2, of_decide_eq_true h3, ?_⟩
  unfold gAd
  split at h4
  · rename_i g r q
    rw [q]
    exact ⟨r, rfl⟩
  · cases h4
end CN
end
section
set_option Elab.async false
set_option linter.all false
set_option maxRecDepth 100000
set_option maxHeartbeats 4000000
namespace CN
open PySem PySem.Spec PyProof.Rows L2
def top (i : Nat) : Stmt := PySem.Challenge.pw_closenews_k52_whole_never_stale.main.body.getD i (.Pass ⟨0, 0, 0, 0⟩)
abbrev s_is_between : Stmt := top 27
def d_is_between : DC := { ad := fun K => He.ga K "is_between", name := "is_between", qual := "is_between", st := s_is_between }
abbrev a_is_between (K : PySem.W.Frag) : Addr := d_is_between.ad K
abbrev s_is_string_of : Stmt := top 28
def d_is_string_of : DC := { ad := fun K => He.ga K "is_string_of", name := "is_string_of", qual := "is_string_of", st := s_is_string_of }
abbrev a_is_string_of (K : PySem.W.Frag) : Addr := d_is_string_of.ad K
abbrev s_is_name : Stmt := top 29
def d_is_name : DC := { ad := fun K => He.ga K "is_name", name := "is_name", qual := "is_name", st := s_is_name }
abbrev a_is_name (K : PySem.W.Frag) : Addr := d_is_name.ad K
abbrev s_is_word : Stmt := top 30
def d_is_word : DC := { ad := fun K => He.ga K "is_word", name := "is_word", qual := "is_word", st := s_is_word }
abbrev a_is_word (K : PySem.W.Frag) : Addr := d_is_word.ad K
abbrev s_need_name : Stmt := top 31
def d_need_name : DC := { ad := fun K => He.ga K "need_name", name := "need_name", qual := "need_name", st := s_need_name }
abbrev a_need_name (K : PySem.W.Frag) : Addr := d_need_name.ad K
abbrev s_need_word : Stmt := top 32
def d_need_word : DC := { ad := fun K => He.ga K "need_word", name := "need_word", qual := "need_word", st := s_need_word }
abbrev a_need_word (K : PySem.W.Frag) : Addr := d_need_word.ad K
abbrev s_need_rule : Stmt := top 33
def d_need_rule : DC := { ad := fun K => He.ga K "need_rule", name := "need_rule", qual := "need_rule", st := s_need_rule }
abbrev a_need_rule (K : PySem.W.Frag) : Addr := d_need_rule.ad K
abbrev s_Notice___init__ : Stmt := inClass (top 34) 0
def d_Notice___init__ : DC := { ad := fun K => He.ma K (He.ga K "Notice") "__init__", name := "__init__", qual := "Notice.__init__", st := s_Notice___init__ }
abbrev a_Notice___init__ (K : PySem.W.Frag) : Addr := d_Notice___init__.ad K
abbrev s_need_notice : Stmt := top 35
def d_need_notice : DC := { ad := fun K => He.ga K "need_notice", name := "need_notice", qual := "need_notice", st := s_need_notice }
abbrev a_need_notice (K : PySem.W.Frag) : Addr := d_need_notice.ad K
abbrev s_once : Stmt := top 37
def d_once : DC := { ad := fun K => He.ga K "once", name := "once", qual := "once", st := s_once }
abbrev a_once (K : PySem.W.Frag) : Addr := d_once.ad K
abbrev s_folded : Stmt := top 38
def d_folded : DC := { ad := fun K => He.ga K "folded", name := "folded", qual := "folded", st := s_folded }
abbrev a_folded (K : PySem.W.Frag) : Addr := d_folded.ad K
abbrev s_Batch___init__ : Stmt := inClass (top 39) 0
def d_Batch___init__ : DC := { ad := fun K => He.ma K (He.ga K "Batch") "__init__", name := "__init__", qual := "Batch.__init__", st := s_Batch___init__ }
abbrev a_Batch___init__ (K : PySem.W.Frag) : Addr := d_Batch___init__.ad K
abbrev s_Batch___len__ : Stmt := inClass (top 39) 1
def d_Batch___len__ : DC := { ad := fun K => He.ma K (He.ga K "Batch") "__len__", name := "__len__", qual := "Batch.__len__", st := s_Batch___len__ }
abbrev a_Batch___len__ (K : PySem.W.Frag) : Addr := d_Batch___len__.ad K
abbrev s_are_nodes : Stmt := top 45
def d_are_nodes : DC := { ad := fun K => He.ga K "are_nodes", name := "are_nodes", qual := "are_nodes", st := s_are_nodes }
abbrev a_are_nodes (K : PySem.W.Frag) : Addr := d_are_nodes.ad K
abbrev s_are_finals : Stmt := top 46
def d_are_finals : DC := { ad := fun K => He.ga K "are_finals", name := "are_finals", qual := "are_finals", st := s_are_finals }
abbrev a_are_finals (K : PySem.W.Frag) : Addr := d_are_finals.ad K
abbrev s_Graph___init__ : Stmt := inClass (top 47) 0
def d_Graph___init__ : DC := { ad := fun K => He.ma K (He.ga K "Graph") "__init__", name := "__init__", qual := "Graph.__init__", st := s_Graph___init__ }
abbrev a_Graph___init__ (K : PySem.W.Frag) : Addr := d_Graph___init__.ad K
abbrev s_Graph_followed : Stmt := inClass (top 47) 1
def d_Graph_followed : DC := { ad := fun K => He.ma K (He.ga K "Mirror") "followed", name := "followed", qual := "Graph.followed", st := s_Graph_followed }
abbrev a_Graph_followed (K : PySem.W.Frag) : Addr := d_Graph_followed.ad K
abbrev s_Question___init__ : Stmt := inClass (top 48) 0
def d_Question___init__ : DC := { ad := fun K => He.ma K (He.ga K "Stale") "__init__", name := "__init__", qual := "Question.__init__", st := s_Question___init__ }
abbrev a_Question___init__ (K : PySem.W.Frag) : Addr := d_Question___init__.ad K
abbrev s_Question_first : Stmt := inClass (top 48) 1
def d_Question_first : DC := { ad := fun K => He.ma K (He.ga K "Stale") "first", name := "first", qual := "Question.first", st := s_Question_first }
abbrev a_Question_first (K : PySem.W.Frag) : Addr := d_Question_first.ad K
abbrev s_Question_reached : Stmt := inClass (top 48) 5
def d_Question_reached : DC := { ad := fun K => He.ma K (He.ga K "Stale") "reached", name := "reached", qual := "Question.reached", st := s_Question_reached }
abbrev a_Question_reached (K : PySem.W.Frag) : Addr := d_Question_reached.ad K
abbrev s_Question_run : Stmt := inClass (top 48) 6
def d_Question_run : DC := { ad := fun K => He.ma K (He.ga K "Stale") "run", name := "run", qual := "Question.run", st := s_Question_run }
abbrev a_Question_run (K : PySem.W.Frag) : Addr := d_Question_run.ad K
abbrev s_is_mirror_step : Stmt := top 54
def d_is_mirror_step : DC := { ad := fun K => He.ga K "is_mirror_step", name := "is_mirror_step", qual := "is_mirror_step", st := s_is_mirror_step }
abbrev a_is_mirror_step (K : PySem.W.Frag) : Addr := d_is_mirror_step.ad K
abbrev s_Mirror___init__ : Stmt := inClass (top 55) 0
def d_Mirror___init__ : DC := { ad := fun K => He.ma K (He.ga K "Mirror") "__init__", name := "__init__", qual := "Mirror.__init__", st := s_Mirror___init__, cl := some "Mirror" }
abbrev a_Mirror___init__ (K : PySem.W.Frag) : Addr := d_Mirror___init__.ad K
abbrev s_Mirror_steps : Stmt := inClass (top 55) 1
def d_Mirror_steps : DC := { ad := fun K => He.ma K (He.ga K "Mirror") "steps", name := "steps", qual := "Mirror.steps", st := s_Mirror_steps }
abbrev a_Mirror_steps (K : PySem.W.Frag) : Addr := d_Mirror_steps.ad K
abbrev s_Mirror_question : Stmt := inClass (top 55) 2
def d_Mirror_question : DC := { ad := fun K => He.ma K (He.ga K "Mirror") "question", name := "question", qual := "Mirror.question", st := s_Mirror_question }
abbrev a_Mirror_question (K : PySem.W.Frag) : Addr := d_Mirror_question.ad K
abbrev s_Watch_begun : Stmt := inClass (top 56) 0
def d_Watch_begun : DC := { ad := fun K => He.ma K (He.ga K "Stale") "begun", name := "begun", qual := "Watch.begun", st := s_Watch_begun }
abbrev a_Watch_begun (K : PySem.W.Frag) : Addr := d_Watch_begun.ad K
abbrev s_Watch_behind : Stmt := inClass (top 56) 5
def d_Watch_behind : DC := { ad := fun K => He.ma K (He.ga K "Stale") "behind", name := "behind", qual := "Watch.behind", st := s_Watch_behind }
abbrev a_Watch_behind (K : PySem.W.Frag) : Addr := d_Watch_behind.ad K
abbrev s_Watch_alone : Stmt := inClass (top 56) 6
def d_Watch_alone : DC := { ad := fun K => He.ma K (He.ga K "Stale") "alone", name := "alone", qual := "Watch.alone", st := s_Watch_alone }
abbrev a_Watch_alone (K : PySem.W.Frag) : Addr := d_Watch_alone.ad K
abbrev s_Watch_within : Stmt := inClass (top 56) 7
def d_Watch_within : DC := { ad := fun K => He.ma K (He.ga K "Stale") "within", name := "within", qual := "Watch.within", st := s_Watch_within }
abbrev a_Watch_within (K : PySem.W.Frag) : Addr := d_Watch_within.ad K
abbrev s_Watch_moves : Stmt := inClass (top 56) 8
def d_Watch_moves : DC := { ad := fun K => He.ma K (He.ga K "Stale") "moves", name := "moves", qual := "Watch.moves", st := s_Watch_moves }
abbrev a_Watch_moves (K : PySem.W.Frag) : Addr := d_Watch_moves.ad K
abbrev s_Stale_lost : Stmt := inClass (top 57) 0
def d_Stale_lost : DC := { ad := fun K => He.ma K (He.ga K "Stale") "lost", name := "lost", qual := "Stale.lost", st := s_Stale_lost }
abbrev a_Stale_lost (K : PySem.W.Frag) : Addr := d_Stale_lost.ad K
abbrev s_Stale_copied : Stmt := inClass (top 57) 1
def d_Stale_copied : DC := { ad := fun K => He.ma K (He.ga K "Stale") "copied", name := "copied", qual := "Stale.copied", st := s_Stale_copied }
abbrev a_Stale_copied (K : PySem.W.Frag) : Addr := d_Stale_copied.ad K
abbrev s_Stale_received : Stmt := inClass (top 57) 2
def d_Stale_received : DC := { ad := fun K => He.ma K (He.ga K "Stale") "received", name := "received", qual := "Stale.received", st := s_Stale_received }
abbrev a_Stale_received (K : PySem.W.Frag) : Addr := d_Stale_received.ad K
abbrev s_Stale_told : Stmt := inClass (top 57) 3
def d_Stale_told : DC := { ad := fun K => He.ma K (He.ga K "Stale") "told", name := "told", qual := "Stale.told", st := s_Stale_told }
abbrev a_Stale_told (K : PySem.W.Frag) : Addr := d_Stale_told.ad K
abbrev s_Stale_is_bad : Stmt := inClass (top 57) 4
def d_Stale_is_bad : DC := { ad := fun K => He.ma K (He.ga K "Stale") "is_bad", name := "is_bad", qual := "Stale.is_bad", st := s_Stale_is_bad }
abbrev a_Stale_is_bad (K : PySem.W.Frag) : Addr := d_Stale_is_bad.ad K
abbrev s_Keeper___init__ : Stmt := inClass (top 59) 0
def d_Keeper___init__ : DC := { ad := fun K => He.ma K (He.ga K "Keeper") "__init__", name := "__init__", qual := "Keeper.__init__", st := s_Keeper___init__ }
abbrev a_Keeper___init__ (K : PySem.W.Frag) : Addr := d_Keeper___init__.ad K
abbrev s_Keeper_held : Stmt := inClass (top 59) 1
def d_Keeper_held : DC := { ad := fun K => gAd K "Keeper" "held", name := "held", qual := "Keeper.held", st := s_Keeper_held }
abbrev a_Keeper_held (K : PySem.W.Frag) : Addr := d_Keeper_held.ad K
abbrev s_Keeper___call__ : Stmt := inClass (top 59) 3
def d_Keeper___call__ : DC := { ad := fun K => He.ma K (He.ga K "Keeper") "__call__", name := "__call__", qual := "Keeper.__call__", st := s_Keeper___call__ }
abbrev a_Keeper___call__ (K : PySem.W.Frag) : Addr := d_Keeper___call__.ad K
abbrev s_Keeper_keep : Stmt := inClass (top 59) 4
def d_Keeper_keep : DC := { ad := fun K => He.ma K (He.ga K "Keeper") "keep", name := "keep", qual := "Keeper.keep", st := s_Keeper_keep }
abbrev a_Keeper_keep (K : PySem.W.Frag) : Addr := d_Keeper_keep.ad K
abbrev s_Keeper_alone : Stmt := inClass (top 59) 5
def d_Keeper_alone : DC := { ad := fun K => He.ma K (He.ga K "Keeper") "alone", name := "alone", qual := "Keeper.alone", st := s_Keeper_alone }
abbrev a_Keeper_alone (K : PySem.W.Frag) : Addr := d_Keeper_alone.ad K
abbrev s_Keeper_within : Stmt := inClass (top 59) 6
def d_Keeper_within : DC := { ad := fun K => He.ma K (He.ga K "Keeper") "within", name := "within", qual := "Keeper.within", st := s_Keeper_within }
abbrev a_Keeper_within (K : PySem.W.Frag) : Addr := d_Keeper_within.ad K
abbrev s_Keeper_update : Stmt := inClass (top 59) 7
def d_Keeper_update : DC := { ad := fun K => He.ma K (He.ga K "Keeper") "update", name := "update", qual := "Keeper.update", st := s_Keeper_update }
abbrev a_Keeper_update (K : PySem.W.Frag) : Addr := d_Keeper_update.ad K
abbrev s_Transaction___init__ : Stmt := inClass (top 62) 0
def d_Transaction___init__ : DC := { ad := fun K => He.ma K (He.ga K "Transaction") "__init__", name := "__init__", qual := "Transaction.__init__", st := s_Transaction___init__ }
abbrev a_Transaction___init__ (K : PySem.W.Frag) : Addr := d_Transaction___init__.ad K
abbrev s_Transaction_need_open : Stmt := inClass (top 62) 2
def d_Transaction_need_open : DC := { ad := fun K => He.ma K (He.ga K "Transaction") "need_open", name := "need_open", qual := "Transaction.need_open", st := s_Transaction_need_open }
abbrev a_Transaction_need_open (K : PySem.W.Frag) : Addr := d_Transaction_need_open.ad K
abbrev s_Transaction_need_cell : Stmt := inClass (top 62) 3
def d_Transaction_need_cell : DC := { ad := fun K => He.ma K (He.ga K "Transaction") "need_cell", name := "need_cell", qual := "Transaction.need_cell", st := s_Transaction_need_cell }
abbrev a_Transaction_need_cell (K : PySem.W.Frag) : Addr := d_Transaction_need_cell.ad K
abbrev s_Transaction___setitem__ : Stmt := inClass (top 62) 6
def d_Transaction___setitem__ : DC := { ad := fun K => He.ma K (He.ga K "Transaction") "__setitem__", name := "__setitem__", qual := "Transaction.__setitem__", st := s_Transaction___setitem__ }
abbrev a_Transaction___setitem__ (K : PySem.W.Frag) : Addr := d_Transaction___setitem__.ad K
abbrev s_Transaction___iadd__ : Stmt := inClass (top 62) 7
def d_Transaction___iadd__ : DC := { ad := fun K => He.ma K (He.ga K "Transaction") "__iadd__", name := "__iadd__", qual := "Transaction.__iadd__", st := s_Transaction___iadd__ }
abbrev a_Transaction___iadd__ (K : PySem.W.Frag) : Addr := d_Transaction___iadd__.ad K
abbrev s_Transaction_changes : Stmt := inClass (top 62) 8
def d_Transaction_changes : DC := { ad := fun K => He.ma K (He.ga K "Transaction") "changes", name := "changes", qual := "Transaction.changes", st := s_Transaction_changes }
abbrev a_Transaction_changes (K : PySem.W.Frag) : Addr := d_Transaction_changes.ad K
abbrev s_Transaction_wishes : Stmt := inClass (top 62) 9
def d_Transaction_wishes : DC := { ad := fun K => He.ma K (He.ga K "Transaction") "wishes", name := "wishes", qual := "Transaction.wishes", st := s_Transaction_wishes }
abbrev a_Transaction_wishes (K : PySem.W.Frag) : Addr := d_Transaction_wishes.ad K
abbrev s_Transaction_listen : Stmt := inClass (top 62) 10
def d_Transaction_listen : DC := { ad := fun K => He.ma K (He.ga K "Transaction") "listen", name := "listen", qual := "Transaction.listen", st := s_Transaction_listen }
abbrev a_Transaction_listen (K : PySem.W.Frag) : Addr := d_Transaction_listen.ad K
abbrev s_Transaction_unlisten : Stmt := inClass (top 62) 11
def d_Transaction_unlisten : DC := { ad := fun K => He.ma K (He.ga K "Transaction") "unlisten", name := "unlisten", qual := "Transaction.unlisten", st := s_Transaction_unlisten }
abbrev a_Transaction_unlisten (K : PySem.W.Frag) : Addr := d_Transaction_unlisten.ad K
abbrev s_Transaction_batch : Stmt := inClass (top 62) 12
def d_Transaction_batch : DC := { ad := fun K => He.ma K (He.ga K "Transaction") "batch", name := "batch", qual := "Transaction.batch", st := s_Transaction_batch }
abbrev a_Transaction_batch (K : PySem.W.Frag) : Addr := d_Transaction_batch.ad K
abbrev s_Transaction_rollback : Stmt := inClass (top 62) 15
def d_Transaction_rollback : DC := { ad := fun K => He.ma K (He.ga K "Transaction") "rollback", name := "rollback", qual := "Transaction.rollback", st := s_Transaction_rollback }
abbrev a_Transaction_rollback (K : PySem.W.Frag) : Addr := d_Transaction_rollback.ad K
abbrev s_Transaction_end : Stmt := inClass (top 62) 16
def d_Transaction_end : DC := { ad := fun K => He.ma K (He.ga K "Transaction") "end", name := "end", qual := "Transaction.end", st := s_Transaction_end }
abbrev a_Transaction_end (K : PySem.W.Frag) : Addr := d_Transaction_end.ad K
abbrev s_Transaction_commit : Stmt := inClass (top 62) 17
def d_Transaction_commit : DC := { ad := fun K => He.ma K (He.ga K "Transaction") "commit", name := "commit", qual := "Transaction.commit", st := s_Transaction_commit }
abbrev a_Transaction_commit (K : PySem.W.Frag) : Addr := d_Transaction_commit.ad K
abbrev s_do_step : Stmt := top 63
def d_do_step : DC := { ad := fun K => He.ga K "do_step", name := "do_step", qual := "do_step", st := s_do_step }
abbrev a_do_step (K : PySem.W.Frag) : Addr := d_do_step.ad K
abbrev s_Member___init__ : Stmt := inClass (top 66) 0
def d_Member___init__ : DC := { ad := fun K => He.ma K (He.ga K "Member") "__init__", name := "__init__", qual := "Member.__init__", st := s_Member___init__ }
abbrev a_Member___init__ (K : PySem.W.Frag) : Addr := d_Member___init__.ad K
abbrev s_Member_need_no_work : Stmt := inClass (top 66) 1
def d_Member_need_no_work : DC := { ad := fun K => He.ma K (He.ga K "Client") "need_no_work", name := "need_no_work", qual := "Member.need_no_work", st := s_Member_need_no_work }
abbrev a_Member_need_no_work (K : PySem.W.Frag) : Addr := d_Member_need_no_work.ad K
abbrev s_Sender_begin : Stmt := inClass (top 67) 0
def d_Sender_begin : DC := { ad := fun K => He.ma K (He.ga K "Client") "begin", name := "begin", qual := "Sender.begin", st := s_Sender_begin }
abbrev a_Sender_begin (K : PySem.W.Frag) : Addr := d_Sender_begin.ad K
abbrev s_Sender_run : Stmt := inClass (top 67) 1
def d_Sender_run : DC := { ad := fun K => He.ma K (He.ga K "Client") "run", name := "run", qual := "Sender.run", st := s_Sender_run }
abbrev a_Sender_run (K : PySem.W.Frag) : Addr := d_Sender_run.ad K
abbrev s_Listener___init__ : Stmt := inClass (top 68) 0
def d_Listener___init__ : DC := { ad := fun K => He.ma K (He.ga K "Client") "__init__", name := "__init__", qual := "Listener.__init__", st := s_Listener___init__, cl := some "Listener" }
abbrev a_Listener___init__ (K : PySem.W.Frag) : Addr := d_Listener___init__.ad K
abbrev s_Listener_behind : Stmt := inClass (top 68) 3
def d_Listener_behind : DC := { ad := fun K => He.ma K (He.ga K "Client") "behind", name := "behind", qual := "Listener.behind", st := s_Listener_behind }
abbrev a_Listener_behind (K : PySem.W.Frag) : Addr := d_Listener_behind.ad K
abbrev s_Listener_receive : Stmt := inClass (top 68) 4
def d_Listener_receive : DC := { ad := fun K => He.ma K (He.ga K "Client") "receive", name := "receive", qual := "Listener.receive", st := s_Listener_receive, kwd := [("most", .int 200)] }
abbrev a_Listener_receive (K : PySem.W.Frag) : Addr := d_Listener_receive.ad K
abbrev s_Listener_disconnect : Stmt := inClass (top 68) 5
def d_Listener_disconnect : DC := { ad := fun K => He.ma K (He.ga K "Client") "disconnect", name := "disconnect", qual := "Listener.disconnect", st := s_Listener_disconnect }
abbrev a_Listener_disconnect (K : PySem.W.Frag) : Addr := d_Listener_disconnect.ad K
abbrev s_Store___init__ : Stmt := inClass (top 73) 0
def d_Store___init__ : DC := { ad := fun K => He.ma K (He.ga K "Store") "__init__", name := "__init__", qual := "Store.__init__", st := s_Store___init__, kwd := [("room", .int 20)] }
abbrev a_Store___init__ (K : PySem.W.Frag) : Addr := d_Store___init__.ad K
abbrev s_Store_present : Stmt := inClass (top 73) 1
def d_Store_present : DC := { ad := fun K => He.ma K (He.ga K "Store") "present", name := "present", qual := "Store.present", st := s_Store_present }
abbrev a_Store_present (K : PySem.W.Frag) : Addr := d_Store_present.ad K
abbrev s_Store_client : Stmt := inClass (top 73) 2
def d_Store_client : DC := { ad := fun K => He.ma K (He.ga K "Store") "client", name := "client", qual := "Store.client", st := s_Store_client }
abbrev a_Store_client (K : PySem.W.Frag) : Addr := d_Store_client.ad K
abbrev s_Store_keep : Stmt := inClass (top 73) 3
def d_Store_keep : DC := { ad := fun K => He.ma K (He.ga K "Store") "keep", name := "keep", qual := "Store.keep", st := s_Store_keep }
abbrev a_Store_keep (K : PySem.W.Frag) : Addr := d_Store_keep.ad K
abbrev s_Store_room : Stmt := inClass (top 73) 6
def d_Store_room : DC := { ad := fun K => gAd K "Store" "room", name := "room", qual := "Store.room", st := s_Store_room }
abbrev a_Store_room (K : PySem.W.Frag) : Addr := d_Store_room.ad K
abbrev s__law_start : Stmt := top 75
def d__law_start : DC := { ad := fun K => He.ga K "_law_start", name := "_law_start", qual := "_law_start", st := s__law_start }
abbrev a__law_start (K : PySem.W.Frag) : Addr := d__law_start.ad K
abbrev s__law_alone : Stmt := top 76
def d__law_alone : DC := { ad := fun K => He.ga K "_law_alone", name := "_law_alone", qual := "_law_alone", st := s__law_alone }
abbrev a__law_alone (K : PySem.W.Frag) : Addr := d__law_alone.ad K
abbrev s__law_within : Stmt := top 77
def d__law_within : DC := { ad := fun K => He.ga K "_law_within", name := "_law_within", qual := "_law_within", st := s__law_within }
abbrev a__law_within (K : PySem.W.Frag) : Addr := d__law_within.ad K
abbrev s__law_after : Stmt := top 78
def d__law_after : DC := { ad := fun K => He.ga K "_law_after", name := "_law_after", qual := "_law_after", st := s__law_after }
abbrev a__law_after (K : PySem.W.Frag) : Addr := d__law_after.ad K
abbrev s__law_replayed : Stmt := top 79
def d__law_replayed : DC := { ad := fun K => He.ga K "_law_replayed", name := "_law_replayed", qual := "_law_replayed", st := s__law_replayed }
abbrev a__law_replayed (K : PySem.W.Frag) : Addr := d__law_replayed.ad K
abbrev s__law_walked : Stmt := top 80
def d__law_walked : DC := { ad := fun K => He.ga K "_law_walked", name := "_law_walked", qual := "_law_walked", st := s__law_walked }
abbrev a__law_walked (K : PySem.W.Frag) : Addr := d__law_walked.ad K
abbrev s__law_rest : Stmt := top 81
def d__law_rest : DC := { ad := fun K => He.ga K "_law_rest", name := "_law_rest", qual := "_law_rest", st := s__law_rest }
abbrev a__law_rest (K : PySem.W.Frag) : Addr := d__law_rest.ad K
abbrev s__law_pen : Stmt := top 82
def d__law_pen : DC := { ad := fun K => He.ga K "_law_pen", name := "_law_pen", qual := "_law_pen", st := s__law_pen }
abbrev a__law_pen (K : PySem.W.Frag) : Addr := d__law_pen.ad K
abbrev s__law_cell_at : Stmt := top 83
def d__law_cell_at : DC := { ad := fun K => He.ga K "_law_cell_at", name := "_law_cell_at", qual := "_law_cell_at", st := s__law_cell_at }
abbrev a__law_cell_at (K : PySem.W.Frag) : Addr := d__law_cell_at.ad K
abbrev s__law_pens : Stmt := top 84
def d__law_pens : DC := { ad := fun K => He.ga K "_law_pens", name := "_law_pens", qual := "_law_pens", st := s__law_pens }
abbrev a__law_pens (K : PySem.W.Frag) : Addr := d__law_pens.ad K
abbrev s__law_draw : Stmt := top 85
def d__law_draw : DC := { ad := fun K => He.ga K "_law_draw", name := "_law_draw", qual := "_law_draw", st := s__law_draw }
abbrev a__law_draw (K : PySem.W.Frag) : Addr := d__law_draw.ad K
abbrev s__law_pick : Stmt := top 86
def d__law_pick : DC := { ad := fun K => He.ga K "_law_pick", name := "_law_pick", qual := "_law_pick", st := s__law_pick }
abbrev a__law_pick (K : PySem.W.Frag) : Addr := d__law_pick.ad K
abbrev s__law_mirror_step : Stmt := top 87
def d__law_mirror_step : DC := { ad := fun K => He.ga K "_law_mirror_step", name := "_law_mirror_step", qual := "_law_mirror_step", st := s__law_mirror_step }
abbrev a__law_mirror_step (K : PySem.W.Frag) : Addr := d__law_mirror_step.ad K
abbrev s__law_mirror_nodes : Stmt := top 88
def d__law_mirror_nodes : DC := { ad := fun K => He.ga K "_law_mirror_nodes", name := "_law_mirror_nodes", qual := "_law_mirror_nodes", st := s__law_mirror_nodes }
abbrev a__law_mirror_nodes (K : PySem.W.Frag) : Addr := d__law_mirror_nodes.ad K
abbrev s__law_finals : Stmt := top 89
def d__law_finals : DC := { ad := fun K => He.ga K "_law_finals", name := "_law_finals", qual := "_law_finals", st := s__law_finals }
abbrev a__law_finals (K : PySem.W.Frag) : Addr := d__law_finals.ad K
abbrev s__law_rule : Stmt := top 90
def d__law_rule : DC := { ad := fun K => He.ga K "_law_rule", name := "_law_rule", qual := "_law_rule", st := s__law_rule }
abbrev a__law_rule (K : PySem.W.Frag) : Addr := d__law_rule.ad K
abbrev s__law_cut_at_rest : Stmt := top 91
def d__law_cut_at_rest : DC := { ad := fun K => He.ga K "_law_cut_at_rest", name := "_law_cut_at_rest", qual := "_law_cut_at_rest", st := s__law_cut_at_rest }
abbrev a__law_cut_at_rest (K : PySem.W.Frag) : Addr := d__law_cut_at_rest.ad K
abbrev s__law_mirror_drawn : Stmt := top 92
def d__law_mirror_drawn : DC := { ad := fun K => He.ga K "_law_mirror_drawn", name := "_law_mirror_drawn", qual := "_law_mirror_drawn", st := s__law_mirror_drawn }
abbrev a__law_mirror_drawn (K : PySem.W.Frag) : Addr := d__law_mirror_drawn.ad K
abbrev s__law_is_wrong : Stmt := top 93
def d__law_is_wrong : DC := { ad := fun K => He.ga K "_law_is_wrong", name := "_law_is_wrong", qual := "_law_is_wrong", st := s__law_is_wrong }
abbrev a__law_is_wrong (K : PySem.W.Frag) : Addr := d__law_is_wrong.ad K
abbrev s__law_run_right : Stmt := top 94
def d__law_run_right : DC := { ad := fun K => He.ga K "_law_run_right", name := "_law_run_right", qual := "_law_run_right", st := s__law_run_right }
abbrev a__law_run_right (K : PySem.W.Frag) : Addr := d__law_run_right.ad K
abbrev s_law : Stmt := top 95
def d_law : DC := { ad := fun K => He.ga K "law", name := "law", qual := "law", st := s_law }
abbrev a_law (K : PySem.W.Frag) : Addr := d_law.ad K
def ds : List DC := ([d_is_between, d_is_string_of, d_is_name, d_is_word, d_need_name, d_need_word, d_need_rule, d_Notice___init__, d_need_notice, d_once, d_folded, d_Batch___init__, d_Batch___len__, d_are_nodes, d_are_finals, d_Graph___init__] : List DC) ++ ([d_Graph_followed, d_Question___init__, d_Question_first, d_Question_reached, d_Question_run, d_is_mirror_step, d_Mirror___init__, d_Mirror_steps, d_Mirror_question, d_Watch_begun, d_Watch_behind, d_Watch_alone, d_Watch_within, d_Watch_moves, d_Stale_lost, d_Stale_copied] : List DC) ++ ([d_Stale_received, d_Stale_told, d_Stale_is_bad, d_Keeper___init__, d_Keeper_held, d_Keeper___call__, d_Keeper_keep, d_Keeper_alone, d_Keeper_within, d_Keeper_update, d_Transaction___init__, d_Transaction_need_open, d_Transaction_need_cell, d_Transaction___setitem__, d_Transaction___iadd__, d_Transaction_changes] : List DC) ++ ([d_Transaction_wishes, d_Transaction_listen, d_Transaction_unlisten, d_Transaction_batch, d_Transaction_rollback, d_Transaction_end, d_Transaction_commit, d_do_step, d_Member___init__, d_Member_need_no_work, d_Sender_begin, d_Sender_run, d_Listener___init__, d_Listener_behind, d_Listener_receive, d_Listener_disconnect] : List DC) ++ ([d_Store___init__, d_Store_present, d_Store_client, d_Store_keep, d_Store_room, d__law_start, d__law_alone, d__law_within, d__law_after, d__law_replayed, d__law_walked, d__law_rest, d__law_pen, d__law_cell_at, d__law_pens, d__law_draw] : List DC) ++ ([d__law_pick, d__law_mirror_step, d__law_mirror_nodes, d__law_finals, d__law_rule, d__law_cut_at_rest, d__law_mirror_drawn, d__law_is_wrong, d__law_run_right, d_law] : List DC)
def lRef : List Str := (["is_between", "is_string_of", "is_name", "is_word", "need_name", "need_word", "need_rule", "need_notice", "once", "folded", "are_nodes", "are_finals", "is_mirror_step", "do_step", "_law_start", "_law_alone"] : List Str) ++ (["_law_within", "_law_after", "_law_replayed", "_law_walked", "_law_rest", "_law_pen", "_law_cell_at", "_law_pens", "_law_draw", "_law_pick", "_law_mirror_step", "_law_mirror_nodes", "_law_finals", "_law_rule", "_law_cut_at_rest", "_law_mirror_drawn"] : List Str) ++ (["_law_is_wrong", "_law_run_right", "law", "Notice", "Batch", "Mirror", "Stale", "Keeper", "Transaction", "Client", "Store", "RULES", "STEPS", "UPDATES", "LENGTHS", "Graph"] : List Str) ++ (["Member", "Listener", "NewsError", "Question", "Watch", "Sender"] : List Str)
def lFree : List Str := (["isinstance", "len", "all", "tuple", "dict", "str", "int", "bool", "min", "max", "sorted", "enumerate", "range", "zip", "super"] : List Str)
def lCls : List Str := (["Notice", "Batch", "Mirror", "Stale", "Keeper", "Transaction", "Client", "Store"] : List Str)
def lNa : List (Str × Str) := ([("Notice", "channel"), ("Notice", "word"), ("Batch", "rule"), ("Batch", "notices"), ("Mirror", "nodes"), ("Mirror", "finals"), ("Stale", "graph"), ("Keeper", "guest"), ("Keeper", "cell"), ("Keeper", "way"), ("Keeper", "work"), ("Keeper", "number"), ("Keeper", "log"), ("Transaction", "store"), ("Transaction", "owner"), ("Transaction", "snapshot")] : List (Str × Str)) ++ ([("Transaction", "began"), ("Transaction", "rows"), ("Transaction", "marks"), ("Transaction", "standing"), ("Client", "store"), ("Client", "name"), ("Client", "work"), ("Client", "starts"), ("Client", "position"), ("Store", "rule"), ("Store", "most"), ("Store", "cells"), ("Store", "members"), ("Store", "past"), ("Store", "queue")] : List (Str × Str))
def lMe : List (Str × Str) := ([("Batch", "__len__"), ("Mirror", "followed"), ("Stale", "first"), ("Stale", "reached"), ("Stale", "run"), ("Mirror", "steps"), ("Mirror", "question"), ("Stale", "begun"), ("Stale", "behind"), ("Stale", "alone"), ("Stale", "within"), ("Stale", "moves"), ("Stale", "lost"), ("Stale", "copied"), ("Stale", "received"), ("Stale", "told")] : List (Str × Str)) ++ ([("Stale", "is_bad"), ("Keeper", "__call__"), ("Keeper", "keep"), ("Keeper", "alone"), ("Keeper", "within"), ("Keeper", "update"), ("Transaction", "need_open"), ("Transaction", "need_cell"), ("Transaction", "__setitem__"), ("Transaction", "__iadd__"), ("Transaction", "changes"), ("Transaction", "wishes"), ("Transaction", "listen"), ("Transaction", "unlisten"), ("Transaction", "batch"), ("Transaction", "rollback")] : List (Str × Str)) ++ ([("Transaction", "end"), ("Transaction", "commit"), ("Client", "need_no_work"), ("Client", "begin"), ("Client", "run"), ("Client", "behind"), ("Client", "receive"), ("Client", "disconnect"), ("Store", "present"), ("Store", "client"), ("Store", "keep")] : List (Str × Str))
def lMk : List Str := (["Notice", "Batch", "Mirror", "Stale", "Keeper", "Transaction", "Client", "Store"] : List Str)
def lKeep : List Str := (["is_between", "is_string_of", "is_name", "is_word", "need_name", "need_word", "need_rule", "need_notice", "once", "folded", "are_nodes", "are_finals", "is_mirror_step", "do_step", "_law_start", "_law_alone"] : List Str) ++ (["_law_within", "_law_after", "_law_replayed", "_law_walked", "_law_rest", "_law_pen", "_law_cell_at", "_law_pens", "_law_draw", "_law_pick", "_law_mirror_step", "_law_mirror_nodes", "_law_finals", "_law_rule", "_law_cut_at_rest", "_law_mirror_drawn"] : List Str) ++ (["_law_is_wrong", "_law_run_right", "law"] : List Str)
def lInt : List (Str × Int) := [("LONGEST", 6), ("MOST_NODES", 6), ("MOST_EDGES", 3), ("OTHER", -1), ("MOST", 200), ("MOST_CELLS", 6), ("MOST_ROOM", 200), ("MANY", 2)]
def lStr : List (Str × Str) := [("LETTERS", "abcdefghijklmnopqrstuvwxyz"), ("SIGNS", "abcdefghijklmnopqrstuvwxyz0123456789"), ("READ", "read")]
def fa : List He.Fa := lRef.map .glo ++ (lFree.map .free ++ (lCls.map .cls ++ (lNa.map (fun p => .noat p.1 p.2) ++ (lMe.map (fun p => .meth p.1 p.2) ++ (lMk.map .mkr ++ (lKeep.map .keep ++ (lInt.map (fun p => .int p.1 p.2) ++ lStr.map (fun p => .str p.1 p.2))))))))
def objClsB (C : Str) (K : PySem.W.Frag) : Bool := He.eqO (PySem.W.findIn K (.ref (He.ga K C)) "__class__") (some (some (.builtin "object.__class__"))) && (He.eqO (PySem.W.specialIn K (.builtin "object.__class__") "__get__") (some (some (.builtin "getset_descriptor.__get__"))) &&
  (decide (PySem.W.takesIn K (.builtin "object.__class__") = some true) && decide (PySem.W.mroIn K (He.ga K C) (.type "object") = some true)))
/-- super(D).__init__ at instances of C: the def of the class G -/
def superB (C D G : Str) (K : PySem.W.Frag) : Bool := (PySem.W.clsIn K (He.ga K D)).isSome && (decide (PySem.W.mroIn K (He.ga K C) (.ref (He.ga K D)) = some true) && (He.eqO (PySem.W.ks_superIn K (He.ga K C) (He.ga K D) "__init__") (some (some (.ref (He.ma K (He.ga K G) "__init__")))) &&
  (decide (PySem.W.typeIn K (.ref (He.ma K (He.ga K G) "__init__")) = some (.type "function")) && He.eqO (PySem.W.nsIn K cStatics "thirdparty.any") (some none))))
def lensB (K : PySem.W.Frag) : Bool := He.valsB K (He.ga K "LENGTHS") [("set", .int 3), ("say", .int 3), ("listen", .int 2), ("unlisten", .int 2)]
def lRULES : List Str := ["first", "last", "all"]
def lSTEPS : List Str := ["begin", "commit", "rollback", "listen", "unlisten", "read", "receive", "disconnect"]
def lUPDATES : List Str := ["take", "newer", "reread"]
def xs : List (PySem.W.Frag → Bool) := [fun K => He.tupB K "RULES" (lRULES.map .str), fun K => He.tupB K "STEPS" (lSTEPS.map .str), fun K => He.tupB K "UPDATES" (lUPDATES.map .str),
  fun K => PySem.W.noSeq K (He.ga K "Transaction"), fun K => PySem.W.selfFirst K (He.ga K "Transaction"), fun K => PySem.W.fnIn K (He.ma K (He.ga K "Keeper") "__call__"), objClsB "Notice",
  propB "Store" "room", propB "Keeper" "held", superB "Mirror" "Mirror" "Graph", superB "Client" "Listener" "Member", lensB]
def ts : List He.Tab := [(fun K => He.ga K "LENGTHS", ["set", "say", "listen", "unlisten"])]
end CN
end
section
set_option Elab.async false
set_option linter.all false
set_option maxRecDepth 100000
set_option maxHeartbeats 0
namespace HeadC
open PySem PySem.W PySem.Calls PyProof.Rows
abbrev R : OpenRow := OpenLaw.row PySem.Challenge.rw_closenews_k52_whole_never_stale
abbrev qv : Program := view R.prog [95]
def names0 : List PySem.Str := ["_wall", "NewsError", "InvalidName", "InvalidWord", "InvalidRule", "InvalidNotice", "InvalidRoom", "InvalidCells", "UnknownCell", "NameTaken", "TransactionOpen", "Ended", "InvalidStep", "InvalidNumber", "InvalidGraph", "InvalidRun", "InvalidWay", "InvalidText", "Conflict", "Full", "TooLarge", "LETTERS", "SIGNS", "LONGEST", "RULES", "is_between", "is_string_of", "is_name", "is_word", "need_name"]
def names1 : List PySem.Str := ["need_word", "need_rule", "Notice", "need_notice", "notice_in", "once", "folded", "Batch", "MOST_NODES", "MOST_EDGES", "MOST_REPAIRED", "OTHER", "are_nodes", "are_finals", "Graph", "Question", "STEPS", "UPDATES", "READ", "MANY", "is_mirror_step", "Mirror", "Watch", "Stale", "Back", "Keeper", "LENGTHS", "Transaction", "do_step", "MOST"]
def names2 : List PySem.Str := ["Member", "Sender", "Listener", "Client", "MOST_CELLS", "MOST_ROOM", "Store", "_law_start", "_law_alone", "_law_within", "_law_after", "_law_replayed", "_law_walked", "_law_rest", "_law_pen", "_law_cell_at", "_law_pens", "_law_draw", "_law_pick", "_law_mirror_step", "_law_mirror_nodes", "_law_finals", "_law_rule", "_law_cut_at_rest", "_law_mirror_drawn", "_law_is_wrong", "_law_run_right"]
def names : List PySem.Str := names0 ++ names1 ++ names2

/-- one part of what the head's run shows -/
def obP (fa : List He.Fa) (ds : List CN.DC) (xs : List (PySem.W.Frag → Bool)) (ts : List He.Tab) (s : SharedT) : CN.AlC := CN.obsCG CN.lRef fa ds xs ts (HandSHeadRun.getT s)
abbrev PartE (fa : List He.Fa) (ds : List CN.DC) (xs : List (PySem.W.Frag → Bool)) (ts : List He.Tab) (w : World) : Prop :=
  HandSHeadRun.RunEq R qv (CN.hookC CN.lRef fa ds xs ts) (obP fa ds xs ts) 14000 names w
theorem p0_false (w : World) : PartE (CN.fa.take 100) [] [] [] (w.withFollow "special-get-raises" false) := by
  intro os
  kernel_rfl
theorem p1_false (w : World) : PartE (CN.fa.drop 100) [] [] [] (w.withFollow "special-get-raises" false) := by
  intro os
  kernel_rfl
theorem p2_false (w : World) : PartE [] (CN.ds.take 37) [] [] (w.withFollow "special-get-raises" false) := by
  intro os
  kernel_rfl
theorem p3_false (w : World) : PartE [] ((CN.ds.drop 37).take 37) [] [] (w.withFollow "special-get-raises" false) := by
  intro os
  kernel_rfl
theorem p4_false (w : World) : PartE [] ((CN.ds.drop 37).drop 37) CN.xs CN.ts (w.withFollow "special-get-raises" false) := by
  intro os
  kernel_rfl
theorem p0_true (w : World) : PartE (CN.fa.take 100) [] [] [] (w.withFollow "special-get-raises" true) := by
  intro os
  kernel_rfl
theorem p1_true (w : World) : PartE (CN.fa.drop 100) [] [] [] (w.withFollow "special-get-raises" true) := by
  intro os
  kernel_rfl
theorem p2_true (w : World) : PartE [] (CN.ds.take 37) [] [] (w.withFollow "special-get-raises" true) := by
  intro os
  kernel_rfl
theorem p3_true (w : World) : PartE [] ((CN.ds.drop 37).take 37) [] [] (w.withFollow "special-get-raises" true) := by
  intro os
  kernel_rfl
theorem p4_true (w : World) : PartE [] ((CN.ds.drop 37).drop 37) CN.xs CN.ts (w.withFollow "special-get-raises" true) := by
  intro os
  kernel_rfl

theorem optJ {σ A B C1 C2 C3 : Type} {z : Option σ} {L : σ → A} {S : σ → B} {o1 : σ → C1} {o2 : σ → C2} {o3 : σ → C3} {a : A} {b : B} {c1 : C1} {c2 : C2} {c3 : C3}
    (h1 : z.map (fun s => (L s, S s, o1 s)) = some (a, b, c1)) (h2 : z.map (fun s => (L s, S s, o2 s)) = some (a, b, c2)) (h : ∀ s, o1 s = c1 → o2 s = c2 → o3 s = c3) : z.map (fun s => (L s, S s, o3 s)) = some (a, b, c3) := by
  cases z with
  | none => cases h1
  | some s =>
    simp only [Option.map_some, Option.some.injEq, Prod.mk.injEq] at h1 h2 ⊢
    exact ⟨h1.1, h1.2.1, h s h1.2.2 h2.2.2⟩
theorem PartE.join {fa1 fa2 : List He.Fa} {d1 d2 : List CN.DC} {x1 x2 : List (PySem.W.Frag → Bool)} {t1 t2 : List He.Tab} {w : World} (h1 : PartE fa1 d1 x1 t1 w) (h2 : PartE fa2 d2 x2 t2 w) :
    PartE (fa1 ++ fa2) (d1 ++ d2) (x1 ++ x2) (t1 ++ t2) w := fun os => optJ (h1 os) (h2 os) fun s b1 b2 => by
  change obP fa1 d1 x1 t1 s = CN.valC d1 t1 w at b1
  change obP fa2 d2 x2 t2 s = CN.valC d2 t2 w at b2
  change obP (fa1 ++ fa2) (d1 ++ d2) (x1 ++ x2) (t1 ++ t2) s = CN.valC (d1 ++ d2) (t1 ++ t2) w
  revert b1 b2
  unfold obP
  generalize HandSHeadRun.getT s = g
  unfold CN.obsCG
  obtain ⟨l, hl⟩ := CN.asE_at (α := CN.AlC) CN.lRef g
  rw [hl, hl, hl, CN.frK_eq, CN.frK_eq, CN.frK_eq]
  generalize He.frG g l = K
  unfold CN.obsC CN.valC
  intro b1 b2
  simp only [Prod.mk.injEq, Bool.and_eq_true] at b1 b2
  simp only [List.all_append, List.map_append, b1.1.2, b2.1.2, b1.2, b2.2, b1.1.1.1.1, b1.1.1.1.2, b1.1.1.2, b2.1.1.1.1, b2.1.1.1.2, b2.1.1.2]
  rfl
theorem full {w : World} (h0 : PartE (CN.fa.take 100) [] [] [] w) (h1 : PartE (CN.fa.drop 100) [] [] [] w) (h2 : PartE [] (CN.ds.take 37) [] [] w) (h3 : PartE [] ((CN.ds.drop 37).take 37) [] [] w) (h4 : PartE [] ((CN.ds.drop 37).drop 37) CN.xs CN.ts w) : PartE CN.fa CN.ds CN.xs CN.ts w := by
  have h := (h0.join h1).join (h2.join (h3.join h4))
  simp only [List.append_nil, List.nil_append, List.take_append_drop] at h
  exact h
abbrev hk : Hook := CN.hookC CN.lRef CN.fa CN.ds CN.xs CN.ts
abbrev ob : SharedT → CN.AlC := obP CN.fa CN.ds CN.xs CN.ts
theorem ob_eq (s : SharedT) : ob s = hk.obs s.abs := CN.obsCG_eq (HandSHeadRun.getT_eq s)
theorem run_at (w : World) (b : Bool) : HandSHeadRun.RunEq R qv hk ob 14000 names (w.withFollow "special-get-raises" b) := by
  intro os
  cases b with
  | false => exact full (p0_false w) (p1_false w) (p2_false w) (p3_false w) (p4_false w) os
  | true => exact full (p0_true w) (p1_true w) (p2_true w) (p3_true w) (p4_true w) os
end HeadC
end
section
set_option Elab.async false
set_option linter.all false
set_option maxRecDepth 100000
set_option maxHeartbeats 4000000
namespace CN
open PySem PySem.Spec PyProof.Rows L2
/-! ### ledgers: a list of tracked objects, found by place -/
abbrev Ldg := List (Addr × HO)
structure Led (H : Hp) (L : Ldg) : Prop where
  nd : (L.map Prod.fst).Nodup
  at_ : ∀ x ∈ L, H x.1 = some x.2
section
variable {H H' : Hp} {L : Ldg} {a p : Addr} {o o' : HO}
theorem Led.nil : Led H [] := ⟨List.nodup_nil, fun x h => by cases h⟩
theorem Led.get (l : Led H L) (i : Nat) (h : L[i]? = some (a, o) := by rfl) : H a = some o := l.at_ _ (List.mem_of_getElem? h)
theorem Led.out (l : Led H L) (h : H p = none) : p ∉ L.map Prod.fst := fun q => by
  obtain ⟨x, hx, rfl⟩ := List.mem_map.mp q
  rw [l.at_ x hx] at h
  cases h
theorem Led.new (l : Led H L) (h : H p = none) : Led (upd H p o) ((p, o) :: L) := by
  refine ⟨?_, fun x hx => ?_⟩
  · rw [List.map_cons]
    exact List.nodup_cons.mpr ⟨l.out h, l.nd⟩
  · rcases List.mem_cons.mp hx with e | hx
    · rw [e]
      exact upd_same
    · rw [upd_ne (ne_of_none (l.at_ x hx) h)]
      exact l.at_ x hx
theorem Led.skip (l : Led H L) (h : H p = none) : Led (upd H p o) L :=
  ⟨l.nd, fun x hx => by rw [upd_ne (ne_of_none (l.at_ x hx) h)]; exact l.at_ x hx⟩
theorem Led.same (l : Led H L) (s : Same H H') : Led H' L := ⟨l.nd, fun x hx => s _ _ (l.at_ x hx)⟩
theorem Led.add (l : Led H L) (h : H p = none) (s : Same H H') (e : H' p = some o) : Led H' ((p, o) :: L) := by
  refine ⟨?_, fun x hx => ?_⟩
  · rw [List.map_cons]
    exact List.nodup_cons.mpr ⟨l.out h, l.nd⟩
  · rcases List.mem_cons.mp hx with q | hx
    · rw [q]
      exact e
    · exact s _ _ (l.at_ x hx)
theorem map_set_fst (i : Nat) (h : L[i]? = some (a, o)) : (L.set i (a, o')).map Prod.fst = L.map Prod.fst := by
  rw [List.map_set]
  refine List.ext_getElem? fun j => ?_
  rw [List.getElem?_set]
  by_cases e : i = j
  · subst e
    rw [if_pos rfl, List.getElem?_map, h]
    have hl : i < (L.map Prod.fst).length := by
      rw [List.length_map]
      exact (List.getElem?_eq_some_iff.mp h).1
    rw [if_pos hl]
    rfl
  · rw [if_neg e]
/-- the objects of the ledger but the i-th stand elsewhere -/
theorem Led.ne (l : Led H L) {i j : Nat} {b : Addr} {u : HO} (hi : L[i]? = some (a, o)) (hj : L[j]? = some (b, u)) (h : i ≠ j) : a ≠ b := by
  intro e
  have h1 : (L.map Prod.fst)[i]? = some a := by rw [List.getElem?_map, hi]; rfl
  have h2 : (L.map Prod.fst)[j]? = some b := by rw [List.getElem?_map, hj]; rfl
  rw [← e] at h2
  obtain ⟨k1, e1⟩ := List.getElem?_eq_some_iff.mp h1
  obtain ⟨k2, e2⟩ := List.getElem?_eq_some_iff.mp h2
  exact h ((List.getElem_inj l.nd).mp (e1.trans e2.symm))
theorem Led.nex (l : Led H L) (i j : Nat) {b : Addr} {u : HO} (hi : L[i]? = some (a, o) := by rfl) (hj : L[j]? = some (b, u) := by rfl) (h : i ≠ j := by decide) : a ≠ b := l.ne hi hj h
/-- the i-th is written: by any heap that has it so and the others as they were -/
theorem Led.put (l : Led H L) (i : Nat) (h : L[i]? = some (a, o)) (k : ∀ b u, H b = some u → b ≠ a → H' b = some u) (e : H' a = some o') : Led H' (L.set i (a, o')) := by
  refine ⟨by rw [map_set_fst i h]; exact l.nd, fun x hx => ?_⟩
  obtain ⟨j, hj⟩ := List.mem_iff_getElem?.mp hx
  rw [List.getElem?_set] at hj
  by_cases q : i = j
  · subst q
    rw [if_pos rfl] at hj
    split at hj
    · cases hj
      exact e
    · cases hj
  · rw [if_neg q] at hj
    obtain ⟨b, u⟩ := x
    exact k b u (l.at_ _ (List.mem_of_getElem? hj)) (l.ne h hj q).symm
theorem Led.set (l : Led H L) (i : Nat) (h : L[i]? = some (a, o) := by rfl) : Led (upd H a o') (L.set i (a, o')) :=
  l.put i h (fun b u q n => by rw [upd_ne n]; exact q) upd_same
theorem Led.sub {M : Ldg} (l : Led H L) (s : M.Sublist L) : Led H M := ⟨l.nd.sublist (s.map _), fun x hx => l.at_ x (s.subset hx)⟩
theorem Led.tail {x : Addr × HO} (l : Led H (x :: L)) : Led H L := l.sub (List.sublist_cons_self x L)
theorem Led.drop (n : Nat) (l : Led H L) : Led H (L.drop n) := l.sub (List.drop_sublist n L)

/-! ### frames: what is not named stands as it stood -/
def Fr (fp : List Addr) (H H' : Hp) : Prop := ∀ b o, H b = some o → b ∉ fp → H' b = some o
theorem Fr.refl (fp : List Addr) : Fr fp H H := fun _ _ e _ => e
theorem Fr.trans {fp : List Addr} {H1 : Hp} (f : Fr fp H H1) (g : Fr fp H1 H') : Fr fp H H' := fun b o e n => g b o (f b o e n) n
theorem Fr.mono {fp fq : List Addr} (f : Fr fp H H') (s : ∀ b, b ∈ fp → b ∈ fq) : Fr fq H H' := fun b o e n => f b o e fun q => n (s b q)
theorem Fr.same {fp : List Addr} (s : Same H H') : Fr fp H H' := fun b o e _ => s b o e
theorem Fr.toSame (f : Fr [] H H') : Same H H' := fun b o e => f b o e (by simp)
theorem Fr.new {fp : List Addr} (h : H p = none) : Fr fp H (upd H p o) := fun b u e _ => by rw [upd_ne (ne_of_none e h)]; exact e
theorem Fr.upd {fp : List Addr} (h : a ∈ fp) : Fr fp H (L2.upd H a o) := fun b u e n => by
  have hb : b ≠ a := fun z => n (by rw [z]; exact h)
  rw [upd_ne hb]
  exact e
/-- a new object of the ahead: what is changed at it is no change -/
theorem Fr.drop {fp : List Addr} (h : H p = none) (f : Fr (p :: fp) H H') : Fr fp H H' := fun b o e n => f b o e fun q => by
  rcases List.mem_cons.mp q with r | r
  · rw [r, h] at e
    cases e
  · exact n r
theorem Same.new (h : H p = none) : Same H (L2.upd H p o) := fun b u e => by rw [upd_ne (ne_of_none e h)]; exact e
theorem Same.newT {H1 : Hp} (s : Same H H1) (h : H1 p = none) : Same H (L2.upd H1 p o) := s.trans (Same.new h)
/-- a call that changes one object of the ledger -/
theorem Led.fr1 (l : Led H L) (i : Nat) (f : Fr [a] H H') (e : H' a = some o') (h : L[i]? = some (a, o) := by rfl) : Led H' (L.set i (a, o')) :=
  l.put i h (fun b u q n => f b u q (by simpa using n)) e
theorem Led.fr2 {b : Addr} {u u' : HO} (l : Led H L) (i j : Nat) (f : Fr [a, b] H H') (e : H' a = some o') (e2 : H' b = some u') (h : L[i]? = some (a, o) := by rfl) (h2 : L[j]? = some (b, u) := by rfl) (hij : i ≠ j := by decide) :
    Led H' ((L.set i (a, o')).set j (b, u')) := by
  have l1 : Led (upd (upd H a o') b u') ((L.set i (a, o')).set j (b, u')) := (l.set i h).set j (by rw [List.getElem?_set_ne hij]; exact h2)
  have nab : a ≠ b := l.ne h h2 hij
  refine ⟨l1.nd, fun x hx => ?_⟩
  have q := l1.at_ x hx
  by_cases hb : x.1 = b
  · rw [hb] at q ⊢
    rw [upd_same] at q
    rw [e2]
    exact q
  · rw [upd_ne hb] at q
    by_cases ha : x.1 = a
    · rw [ha] at q ⊢
      rw [upd_same] at q
      rw [e]
      exact q
    · rw [upd_ne ha] at q
      exact f _ _ q (by simp [ha, hb])
/-- a call over the part W of the ledger -/
theorem Led.after {T W W' R : Ldg} (l : Led H (T ++ (W ++ R))) (f : Fr (W.map Prod.fst) H H') (l' : Led H' W') (e : W'.map Prod.fst = W.map Prod.fst) : Led H' (T ++ (W' ++ R)) := by
  have hn : ((T ++ (W' ++ R)).map Prod.fst) = ((T ++ (W ++ R)).map Prod.fst) := by simp only [List.map_append, e]
  refine ⟨by rw [hn]; exact l.nd, fun x hx => ?_⟩
  have nd := l.nd
  rw [List.map_append, List.map_append] at nd
  rcases List.mem_append.mp hx with q | q
  · refine f _ _ (l.at_ x (List.mem_append_left _ q)) fun z => ?_
    exact (List.nodup_append.mp nd).2.2 _ (List.mem_map.mpr ⟨x, q, rfl⟩) _ (List.mem_append_left _ z) rfl
  · rcases List.mem_append.mp q with q | q
    · exact l'.at_ x q
    · refine f _ _ (l.at_ x (List.mem_append_right _ (List.mem_append_right _ q))) fun z => ?_
      have nd2 := (List.nodup_append.mp nd).2.1
      exact (List.nodup_append.mp nd2).2.2 _ z _ (List.mem_map.mpr ⟨x, q, rfl⟩) rfl
end
theorem Same.tup {H H' : Hp} {K : PySem.W.Frag} {a : Addr} {xs : List V} (e : Same H H') (h : SqT K H a xs) : SqT K H' a xs := by
  rcases h with (h | ⟨o, h⟩) | h
  · exact .inl (.inl (e _ _ h))
  · exact .inl (.inr ⟨o, e _ _ h⟩)
  · exact .inr h

/-! ### defs by a positional promise -/
section
variable {P : Program} {w : World} {K : PySem.W.Frag} {mg : Str → Option Value} {base : Heap} {x qual : Str} {params : Arguments} {body : List Stmt} {scope : Scope} {kws : List (Str × V)} {f : Addr} {fd : FuncData}
/-- a def without defaults -/
theorem fR {N ps : List Str} {k : Nat} {sp : Sp} (F : FunD K x qual params body scope [] kws f fd) (S : FnScope N ps scope)
    (hb : ∀ (kV doc pm : Value) (an : Option Addr) (cdv ct : Value) (us : List Value), us.length = ps.length → bindArgs (PySem.W.fnOf x qual params body scope .none kV doc pm an cdv ct) ⟨us, []⟩ = pure (ps.zip us))
    (len : ∀ vs H Q E, sp vs H Q E → vs.length = ps.length)
    (hbody : ∀ (cdv : Value) (A : Around) (outer : List Env) (s : Shared) (H : Hp) (vs : List V) (Q : VK) (E : XK), Room k (A.deeper (envOfC qual scope s.heap.objs.size f cdv)) → sp vs H Q E →
      ∃ t, PSs (cxOf CX0 P w K mg base N qual scope f cdv A outer s H E).nox body t ∧ t { nx := fun _ H' => Q .non H', rt := Q } (start N vs) H) : FnR P w K mg base CX0 (k + 1) f sp := by
  have G := (F.ok (CX := CX0) S len (fun cdv A outer s H vs Q E hr h => by
    obtain ⟨t, h1, h2⟩ := hbody cdv A outer s H vs Q E hr h
    exact ⟨t, h1.nox, h2⟩)).raw (F.bindsN hb) .nil
  exact G.imp fun vs H Q E h => by rw [List.append_nil]; exact h
end
structure GF (K : PySem.W.Frag) (mg : Str → Option Value) (x : Str) (f : Addr) : Prop where
  mg : mg x = some (.ref f)
  kp : PySem.W.keepIn K (.ref f) = true
section
variable {X : Cx} {k : Nat} {f C g : Addr} {sp : Sp} {x m : Str} {e o : Expr} {es : List Expr} {te ta : TE} {t : TA} {p pos apos : Pos} {pl : Sem Bool}
def tCf (sp : Sp) (t : TA) : TE := fun σ H Q => t σ H fun vs H1 => sp vs H1 Q E0
def tCf0 (sp : Sp) : TE := fun σ H Q => sp [] H Q E0
def tCv (i : Nat) (f : Addr) (sp : Sp) (t : TA) : TE := fun σ H Q => σ[i]? = some (some (.ref f)) ∧ t σ H fun vs H1 => sp vs H1 Q E0
def tPr (C : Addr) (sp : Sp) (ta : TE) : TE := fun σ H Q => ta σ H fun x H1 => ∃ a dx fs, x = .ref a ∧ H1 a = some (.ins C dx fs) ∧ sp [.ref a] H1 Q E0
/-- x(e, ..) -/
theorem pe_cf (F : FnR X.prog X.w X.K X.mg X.base CX0 k f sp) (hr : Room k X.A) (hg : Gl X x) (hm : GF X.K X.mg x f) (ha : PA X (e :: es) t) (hdb : (x == ("__debug__" : Str)) = false := by decide)
    (he : starEach (e :: es) X.env = (false, eval e X.env) :: starEach es X.env := by rfl) (hpl : (backTo pos (starEach es X.env)).any (·.1) = false := by rfl) :
    PE X (.Call (.Name x p) (e :: es) [] pos) (tCf sp t) := by
  refine ⟨fun pins s σ H Q I h => ?_⟩
  refine wpAny_Call_Name_kw (ld_glob I hg hm.mg ?_ hdb)
  refine PySem.W.callWith_K (h₀ := X.base) I.ok.mod.kin hm.kp (thn (ha.run pos pins s σ H _ I h) fun us s1 ⟨vs, H1, I1, r, q⟩ => ⟨I1.kIn, ?_⟩) he hpl
  exact wpAny_call (run_fnR F hr pass0 I1 r q)
/-- x() -/
theorem pe_cf0 (F : FnR X.prog X.w X.K X.mg X.base CX0 k f sp) (hr : Room k X.A) (hg : Gl X x) (hm : GF X.K X.mg x f) (hdb : (x == ("__debug__" : Str)) = false := by decide) :
    PE X (.Call (.Name x p) [] [] pos) (tCf0 sp) := by
  refine ⟨fun pins s σ H Q I h => ?_⟩
  refine wpAny_Call_Name_kw (ld_glob I hg hm.mg ?_ hdb)
  exact PySem.W.callWith_K0 I.kIn hm.kp (wpAny_call (run_fnR (us := []) (vs := []) F hr pass0 I .nil h))
/-- o.m(e, ..) -/
theorem pe_me (he : PE X o ta) (c : Cls X.K C) (hm : Meth X.K C m f) (F : FnR X.prog X.w X.K X.mg X.base CX0 k f sp) (hr : Room k X.A) (ha : PA X (e :: es) t)
    (hst : starEach (e :: es) X.env = (false, eval e X.env) :: starEach es X.env := by rfl) (hpl : (backTo pos (starEach es X.env)).any (·.1) = false := by rfl)
    (ht : eval (.Call (.Attribute o m apos) (e :: es) [] pos) X.env = (do
      let ov ← eval o X.env
      standAt apos.atName
      let (f, first) ← holding [ov] (getMethod ov m pl)
      callWith pos f first (backTo pos (starEach (e :: es) X.env)) (backToKw pos (keywordEach [] X.env))) := by rfl) :
    PE X (.Call (.Attribute o m apos) (e :: es) [] pos) (tMethR C m sp E0 ta t) := pe_methR he c hm F hr pass0 ha hst hpl ht
/-- o.m() -/
theorem pe_me0 (he : PE X o ta) (c : Cls X.K C) (hm : Meth X.K C m f) (F : FnR X.prog X.w X.K X.mg X.base CX0 k f sp) (hr : Room k X.A)
    (ht : eval (.Call (.Attribute o m apos) [] [] pos) X.env = (do
      let ov ← eval o X.env
      standAt apos.atName
      let (f, first) ← holding [ov] (getMethod ov m pl)
      callWith pos f first (backTo pos (starEach [] X.env)) (backToKw pos (keywordEach [] X.env))) := by rfl) :
    PE X (.Call (.Attribute o m apos) [] [] pos) (tMethR C m sp E0 ta tNil) := by
  refine ⟨fun pins s σ H Q I h => ?_⟩
  refine PySem.W.methodCall_KW (pl := pl) (thn (he.run pins s σ H _ I h) fun u s1 ⟨x, H1, I1, rx, a, dx, fs, ex, ea, l, q⟩ => ?_) ht
  subst ex
  obtain rfl : u = Value.ref a := rx
  refine getmeth_ok I1 ea c hm l ?_
  exact PySem.W.callWith_K0 (first := [.ref a]) I1.kIn hm.kp (wpAny_call (run_fnR (us := [.ref a]) (vs := [.ref a]) F hr pass0 I1 (.cons rfl .nil) q))
/-- C(e, ..) -/
theorem pe_mk (M : Mk X.K C f) (F : FnR X.prog X.w X.K X.mg X.base CX0 k f sp) (hr : Room (k + 1) X.A) (hg : Gl X x) (hm : X.mg x = some (.ref C)) (ha : PA X (e :: es) t) (hdb : (x == ("__debug__" : Str)) = false := by decide)
    (he : starEach (e :: es) X.env = (false, eval e X.env) :: starEach es X.env := by rfl) (hpl : (backTo pos (starEach es X.env)).any (·.1) = false := by rfl) : PE X (.Call (.Name x p) (e :: es) [] pos) (StX.tMakeR C sp E0 t) :=
  StX.pe_makeR M F hr hg hm pass0 ha hdb he hpl
/-- C(e, .., *y) -/
theorem pe_mkS (M : Mk X.K C f) (F : FnR X.prog X.w X.K X.mg X.base CX0 k f sp) (hr : Room (k + 1) X.A) (hg : Gl X x) (hm : X.mg x = some (.ref C)) (ha : PA X (e :: es) t) (hdb : (x == ("__debug__" : Str)) = false := by decide)
    (he : starEach (e :: es) X.env = (false, eval e X.env) :: starEach es X.env := by rfl) (hst : (backTo pos (starEach es X.env)).any (·.1) = true := by rfl) : PE X (.Call (.Name x p) (e :: es) [] pos) (StX.tMakeR C sp E0 t) := by
  refine ⟨fun pins s σ H Q I h => ?_⟩
  refine wpAny_Call_Name_kw (ld_glob I hg hm ?_ hdb)
  refine PySem.W.callWith_S2 (h₀ := X.base) I.ok.mod.kin M.kp (thn (ha.run pos pins s σ H _ I h) fun us s1 ⟨vs, H1, I1, r, q⟩ => ⟨I1.kIn, ?_⟩) he hst
  exact StX.run_makeR M F hr pass0 I1 r q
/-- f(e, ..), f an instance -/
theorem pe_inst {fe : Expr} {tf : TE} (hf : PE X fe tf) (c : StX.CallO X.K C g) (F : FnR X.prog X.w X.K X.mg X.base CX0 k g sp) (hr : Room k X.A) (ha : PA X (e :: es) t)
    (ht : eval (.Call fe (e :: es) [] pos) X.env = (do callWith pos (← eval fe X.env) [] (backTo pos (starEach (e :: es) X.env)) (backToKw pos (keywordEach [] X.env))) := by rfl)
    (he : starEach (e :: es) X.env = (false, eval e X.env) :: starEach es X.env := by rfl) (hpl : (backTo pos (starEach es X.env)).any (·.1) = false := by rfl) : PE X (.Call fe (e :: es) [] pos) (StX.tCallO X C sp E0 tf t) :=
  StX.pe_callO hf c F hr pass0 ha ht he hpl
/-- y(e, ..), y a name that holds the def at f -/
theorem pe_cv {i : Nat} (F : FnR X.prog X.w X.K X.mg X.base CX0 k f sp) (hr : Room k X.A) (hk : PySem.W.keepIn X.K (.ref f) = true) (ha : PA X (e :: es) t) (hN : X.N[i]? = some x := by rfl) (hv : Vis X.env.scope x := by first | exact Or.inl rfl | exact Or.inr (Or.inl rfl) | exact Or.inr (Or.inr rfl))
    (hdb : (x == ("__debug__" : Str)) = false := by decide) (hcd : (x == ("__classdict__" : Str)) = false := by decide)
    (he : starEach (e :: es) X.env = (false, eval e X.env) :: starEach es X.env := by rfl) (hpl : (backTo pos (starEach es X.env)).any (·.1) = false := by rfl) :
    PE X (.Call (.Name x p) (e :: es) [] pos) (tCv i f sp t) := by
  refine ⟨fun pins s σ H Q I h => ?_⟩
  obtain ⟨hs, ht⟩ := h
  refine wpAny_Call_Name_kw (thn ((pe_var (pos := p) hN hv hdb hcd).run pins s σ H (fun v H1 => v = .ref f ∧ H1 = H) I ⟨.ref f, hs, rfl, rfl⟩) fun u s1 ⟨v, H1, I1, r1, q1⟩ => ?_)
  obtain ⟨rfl, rfl⟩ := q1
  cases r1
  refine PySem.W.callWith_K (h₀ := X.base) I.ok.mod.kin hk (thn (ha.run pos pins s1 σ _ _ I1 ht) fun us s2 ⟨vs, H2, I2, r, q⟩ => ⟨I2.kIn, ?_⟩) he hpl
  exact wpAny_call (run_fnR F hr pass0 I2 r q)
/-- e.f, a field -/
def tFd (C : Addr) (f : Str) (ta : TE) : TE := fun σ H Q => ta σ H fun x H1 => ∃ a dx fs v, x = .ref a ∧ H1 a = some (.ins C dx fs) ∧ fs.lookup f = some v ∧ Q v H1
theorem pe_fd {fl : Str} (c : Cls X.K C) (n : NoAttr X.K C fl) (he : PE X e ta) (hb : attributeBase e fl X.env (eval e X.env) = eval e X.env := by rfl) : PE X (.Attribute e fl pos) (tFd C fl ta) := by
  refine ⟨fun pins s σ H Q I h => ?_⟩
  refine attr_of hb (thn (he.run pins s σ H _ I h) fun u s1 ⟨x, H1, I1, rx, a, dx, fs, v, ex, ea, l, q⟩ => ?_)
  subst ex
  obtain rfl : u = Value.ref a := rx
  exact getattr_ok I1 ea c n l fun u' s2 I2 ru => ⟨v, H1, I2, ru, q⟩
/-- o.f = value: the fields behind it are told -/
def sFd (C : Addr) (f : Str) (ta tv : TE) : TS := fun D σ H => tv σ H fun y H1 => ta σ H1 fun x H2 => ∃ a dx fs fs', x = .ref a ∧ H2 a = some (.ins C dx fs) ∧ putF f y fs = fs' ∧ fs.length < 1000 ∧ D.nx σ (upd H2 a (.ins C dx fs'))
theorem ps_fd {fl : Str} {value : Expr} {tv : TE} {pos' : Pos} (c : Cls X.K C) (n : NoAttr X.K C fl) (ha : PE X o ta) (hv : PE X value tv) (hs : swapsWith value (some (.Attribute o fl pos')) pos.line X.env = pure false := by rfl) :
    PS X (.Assign [.Attribute o fl pos'] value pos) (sFd C fl ta tv) := by
  refine ⟨fun pins s σ H D I h => ?_⟩
  refine plainObj_wpAny_Assign_Attribute (thn (hv.run pins s σ H _ I h) fun u s1 ⟨y, H1, I1, ry, q⟩ => thn (ha.run pins s1 σ H1 _ I1 q) fun ov s2 ⟨x, H2, I2, rx, a, dx, fs, fs', ex, ea, ep, l, q2⟩ => ?_) hs
  subst ex
  subst ep
  obtain rfl : ov = Value.ref a := rx
  exact setattr_ok I2 ea c n l ry fun s3 I3 => ⟨σ, _, I3, q2⟩
/-- e.f, a property: its getter's promise -/
theorem pe_pr {fl : Str} {pq : Addr} (he : PE X e ta) (c : Cls X.K C) (hp : PropOf X.K C fl pq g) (F : FnR X.prog X.w X.K X.mg X.base CX0 k g sp) (hr : Room (k + 1) X.A)
    (hab : attributeBase e fl X.env (eval e X.env) = eval e X.env := by rfl) : PE X (.Attribute e fl pos) (tPr C sp ta) := by
  refine ⟨fun pins s σ H Q I h => ?_⟩
  refine attr_of hab (thn (he.run pins s σ H _ I h) fun u s1 ⟨x, H1, I1, rx, a, dx, fs, ex, ea, q⟩ => ?_)
  subst ex
  obtain rfl : u = Value.ref a := rx
  obtain ⟨mA, O, _, _, _, _⟩ := ins_get I1.hok ea
  obtain ⟨od, J, _⟩ := O.look
  obtain ⟨rest, hrec⟩ := hp.rec_
  have I2 := I1.tok (s1.toks + 1)
  have hc : (PySem.W.clsIn X.K C).isSome = true := by
    obtain ⟨cd, hc, _⟩ := PySem.W.any_some c.hd
    rw [hc]
    rfl
  refine PySem.W.get_bind I1.kIn J (PySem.W.plainGet_of (c.get fl)).1 (PySem.W.findObj_data hc hp.at_ hp.get hp.tak) (PySem.W.plainGet_of (c.get fl)).2 (wpAny_call (PySem.W.prop_get (s := { s1 with toks := s1.toks + 1 }) I1.kIn hrec ?_))
  refine codeAny_mono (F X.A.in1 X.stack { s1 with toks := s1.toks + 1 } H1 [.ref a] [.ref a] Q E0 hr.in1 I2.env0.in1 (.cons rfl .nil) q) fun r s' hq => ?_
  cases r with
  | error er => exact False.elim hq
  | ok fl =>
    cases fl with
    | ret u =>
      obtain ⟨v, H', I3, rv, q3⟩ := I2.after hq
      show wpAny _ _ (handedOut u) _ _ _
      rw [PySem.W.handedOut_of (handed_of rv)]
      exact wpAny_pure ⟨v, H', I3, rv, q3⟩
    | next => exact False.elim hq
    | brk => exact False.elim hq
    | cont => exact False.elim hq
/-- o[i] = v by an own __setitem__ -/
def rSetOwn (C : Addr) (sp : Sp) : TSet := fun o i v H Q => ∃ a dx fs, o = .ref a ∧ H a = some (.ins C dx fs) ∧ sp [o, i, v] H (fun _ H' => Q H') E0
theorem set_own (hq : PySem.W.noSeq X.K C = true) (hm : Meth X.K C "__setitem__" g) (F : FnR X.prog X.w X.K X.mg X.base CX0 k g sp) (hr : Room k X.A) : PSet X (rSetOwn C sp) := by
  intro pins s σ H o i v ov iv u Q I ro ri rv h
  obtain ⟨a, dx, fs, rfl, ea, h⟩ := h
  cases (show ov = Value.ref a from ro)
  obtain ⟨mA, O, _⟩ := ins_get I.hok ea
  obtain ⟨od, J, _⟩ := O.look
  obtain ⟨m, hF⟩ := I.fr
  refine PySem.W.ksp_setItem hF I.ok.mod.kin J hq hm.at_ hm.fn (thn (wpAny_call (run_fnR (us := [.ref a, iv, u]) (vs := [.ref a, i, v]) F hr pass0 I (.cons rfl (.cons ri (.cons rv .nil))) h)) fun r s' hr' => ?_)
  obtain ⟨z, H', I', _, q⟩ := hr'
  exact ⟨H', I', q⟩
/-- o += v by an own __iadd__ -/
theorem ip_own (hc : PySem.W.selfFirst X.K C = true) (hm : Meth X.K C "__iadd__" g) (F : FnR X.prog X.w X.K X.mg X.base CX0 k g sp) (hr : Room k X.A) :
    PIp X .Add (fun x y H Q => ∃ a dx fs, x = .ref a ∧ H a = some (.ins C dx fs) ∧ sp [x, y] H Q E0) := by
  intro pins s σ H x y v u Q I rx ry h
  obtain ⟨a, dx, fs, rfl, ea, h⟩ := h
  cases (show v = Value.ref a from rx)
  obtain ⟨mA, O, _⟩ := ins_get I.hok ea
  obtain ⟨od, J, _⟩ := O.look
  obtain ⟨m, hF⟩ := I.fr
  refine PySem.W.ksp_inplace (op := .Add) hF I.ok.mod.kin J hc hm.at_ hm.fn (thn (wpAny_call (run_fnR (us := [.ref a, u]) (vs := [.ref a, y]) F hr pass0 I (.cons rfl (.cons ry .nil)) h)) fun r s' hr' => ?_)
  obtain ⟨z', H', I', rz, q⟩ := hr'
  exact SlX.cmpback rz ⟨z', H', I', rz, q⟩
/-- len(o) by an own __len__ -/
theorem call_lenOwn (hm : Meth X.K C "__len__" g) (F : FnR X.prog X.w X.K X.mg X.base CX0 k g sp) (hr : Room (k + 1) X.A) :
    CallR X (.builtin "len") (fun xs H Q => ∃ a dx fs, xs = [.ref a] ∧ H a = some (.ins C dx fs) ∧ sp [.ref a] H (fun v H' => ∃ n : Int, v = .int n ∧ 0 ≤ n ∧ n < 2 ^ 63 ∧ Q (.int n) H') E0) := by
  intro pins s σ H xs us Q I r h
  obtain ⟨a, dx, fs, rfl, ea, h⟩ := h
  obtain rfl := Vals.ref1 r
  obtain ⟨mA, O, _⟩ := ins_get I.hok ea
  obtain ⟨od, J, _⟩ := O.look
  obtain ⟨m, hF⟩ := I.fr
  refine PySem.W.len_K hF I.ok.mod.kin J hm.at_ hm.fn (thn (wpAny_call (SlX.run_at (us := [.ref a]) (ws := [.ref a]) F hr.in1 I.env0.in1 pass0 I (.cons rfl .nil) h)) fun v s' hv => ?_)
  obtain ⟨z, H', I', rz, n, ez, h0, h1, q⟩ := hv
  subst ez
  obtain ⟨t, rfl⟩ := (show ∃ t, v = Value.int n t from rz)
  exact ⟨⟨h0, h1⟩, .int n, H', I'.tok _, ⟨_, rfl⟩, q⟩
end
end CN
end
section
set_option Elab.async false
set_option linter.all false
set_option maxRecDepth 100000
set_option maxHeartbeats 4000000
namespace CN
open PySem PySem.Spec PyProof.Rows L2
/-- what the head tells -/
structure TX (w : World) (K : PySem.W.Frag) (mg : Str → Option Value) : Prop where
  c : SaysC fa ds xs ts w K
  g : ∀ (y : Str) (r : Value), PySem.W.nsIn K mainGlobals y = some (some r) → mg y = some r
  n : ∀ y : Str, PySem.W.nsIn K mainGlobals y = some none → mg y = none
section
variable {w : World} {K : PySem.W.Frag} {mg : Str → Option Value}
theorem TX.ref (T : TX w K mg) (x : Str) (h : lRef.contains x = true := by decide +kernel) : mg x = some (.ref (He.ga K x)) :=
  T.g _ _ (He.eqO_ok (T.c.facts (f := .glo x) (List.mem_append_left _ (List.mem_map.mpr ⟨x, List.contains_iff_mem.mp h, rfl⟩))))
theorem TX.free (T : TX w K mg) (x : Str) (h : lFree.contains x = true := by decide +kernel) : mg x = none :=
  T.n _ (He.eqO_ok (T.c.facts (f := .free x) (List.mem_append_right _ (List.mem_append_left _ (List.mem_map.mpr ⟨x, List.contains_iff_mem.mp h, rfl⟩)))))
theorem TX.cls (T : TX w K mg) (x : Str) (h : lCls.contains x = true := by decide +kernel) : Cls K (He.ga K x) :=
  He.cls_ok (T.c.facts (f := .cls x) (List.mem_append_right _ (List.mem_append_right _ (List.mem_append_left _ (List.mem_map.mpr ⟨x, List.contains_iff_mem.mp h, rfl⟩)))))
theorem TX.na (T : TX w K mg) (x f : Str) (h : lNa.contains (x, f) = true := by decide +kernel) : NoAttr K (He.ga K x) f :=
  He.noat_ok (T.c.facts (f := .noat x f) (List.mem_append_right _ (List.mem_append_right _ (List.mem_append_right _ (List.mem_append_left _ (List.mem_map.mpr ⟨(x, f), List.contains_iff_mem.mp h, rfl⟩))))))
theorem TX.me (T : TX w K mg) (x f : Str) (h : lMe.contains (x, f) = true := by decide +kernel) : Meth K (He.ga K x) f (He.ma K (He.ga K x) f) :=
  He.meth_ok (T.c.facts (f := .meth x f) (List.mem_append_right _ (List.mem_append_right _ (List.mem_append_right _ (List.mem_append_right _ (List.mem_append_left _ (List.mem_map.mpr ⟨(x, f), List.contains_iff_mem.mp h, rfl⟩)))))))
theorem TX.mkr (T : TX w K mg) (x : Str) (h : lMk.contains x = true := by decide +kernel) : Mk K (He.ga K x) (He.ma K (He.ga K x) "__init__") :=
  He.mkr_ok (T.c.facts (f := .mkr x) (List.mem_append_right _ (List.mem_append_right _ (List.mem_append_right _ (List.mem_append_right _ (List.mem_append_right _ (List.mem_append_left _ (List.mem_map.mpr ⟨x, List.contains_iff_mem.mp h, rfl⟩))))))))
theorem TX.gf (T : TX w K mg) (x : Str) (h : lKeep.contains x = true := by decide +kernel) (h2 : lRef.contains x = true := by decide +kernel) : GF K mg x (He.ga K x) :=
  ⟨T.ref x h2, He.keep_ok (T.c.facts (f := .keep x) (List.mem_append_right _ (List.mem_append_right _ (List.mem_append_right _ (List.mem_append_right _ (List.mem_append_right _ (List.mem_append_right _ (List.mem_append_left _ (List.mem_map.mpr ⟨x, List.contains_iff_mem.mp h, rfl⟩)))))))))⟩
theorem TX.gint (T : TX w K mg) (x : Str) (i : Int) (h : lInt.contains (x, i) = true := by decide +kernel) : ∃ t, mg x = some (.int i t) := by
  have c := T.c.facts (f := .int x i) (List.mem_append_right _ (List.mem_append_right _ (List.mem_append_right _ (List.mem_append_right _ (List.mem_append_right _ (List.mem_append_right _ (List.mem_append_right _ (List.mem_append_left _ (List.mem_map.mpr ⟨(x, i), List.contains_iff_mem.mp h, rfl⟩)))))))))
  have c2 : (match PySem.W.nsIn K mainGlobals x with
    | some (some (.int j _)) => decide (j = i)
    | _ => false) = true := c
  split at c2
  · rename_i j t q
    have e := of_decide_eq_true c2
    subst e
    exact ⟨t, T.g _ _ q⟩
  · cases c2
theorem TX.gstr (T : TX w K mg) (x z : Str) (h : lStr.contains (x, z) = true := by decide +kernel) : ∃ t, mg x = some (.str z t) := by
  have c := T.c.facts (f := .str x z) (List.mem_append_right _ (List.mem_append_right _ (List.mem_append_right _ (List.mem_append_right _ (List.mem_append_right _ (List.mem_append_right _ (List.mem_append_right _ (List.mem_append_right _ (List.mem_map.mpr ⟨(x, z), List.contains_iff_mem.mp h, rfl⟩)))))))))
  have c2 : (match PySem.W.nsIn K mainGlobals x with
    | some (some (.str y _)) => decide (y = z)
    | _ => false) = true := c
  split at c2
  · rename_i j t q
    have e := of_decide_eq_true c2
    subst e
    exact ⟨t, T.g _ _ q⟩
  · cases c2
/-- the i-th def -/
theorem TX.fn (T : TX w K mg) (i : Nat) {d : DC} (h : ds[i]? = some d) (hc : d.cl = none) : ∃ fd, FunD K d.name d.qual (defArgs d.st) (defBody d.st) (defScope d.st) [] (d.kws K) (d.ad K) fd :=
  let ⟨e, c⟩ := T.c.dfn i h
  dc_fun e c hc
theorem TX.fnS (T : TX w K mg) (i : Nat) {d : DC} {C : Str} (h : ds[i]? = some d) (hc : d.cl = some C) : FunC K d.name d.qual d.st C (d.ad K) :=
  let ⟨e, c⟩ := T.c.dfn i h
  dc_super e c hc
theorem tup_strs {x : Str} {l : List Str} (h : He.tupB K x (l.map .str) = true) (H : Hp) : SqT K H (He.ga K x) (l.map V.str) := by
  have q := He.tupB_ok h H
  rw [List.map_map] at q
  exact q
theorem TX.rules (T : TX w K mg) (H : Hp) : SqT K H (He.ga K "RULES") (lRULES.map V.str) := tup_strs (T.c.ex 0) H
theorem TX.stps (T : TX w K mg) (H : Hp) : SqT K H (He.ga K "STEPS") (lSTEPS.map V.str) := tup_strs (T.c.ex 1) H
theorem TX.upds (T : TX w K mg) (H : Hp) : SqT K H (He.ga K "UPDATES") (lUPDATES.map V.str) := tup_strs (T.c.ex 2) H
theorem TX.noSeq (T : TX w K mg) : PySem.W.noSeq K (He.ga K "Transaction") = true := T.c.ex 3
theorem TX.selfFirst (T : TX w K mg) : PySem.W.selfFirst K (He.ga K "Transaction") = true := T.c.ex 4
theorem TX.callO (T : TX w K mg) : StX.CallO K (He.ga K "Keeper") (He.ma K (He.ga K "Keeper") "__call__") := ⟨(T.me "Keeper" "__call__").at_, (T.me "Keeper" "__call__").fn, T.c.ex 5⟩
theorem TX.room (T : TX w K mg) : PropOf K (He.ga K "Store") "room" (pAd K "Store" "room") (gAd K "Store" "room") := propB_ok (T.c.ex 7)
theorem TX.held (T : TX w K mg) : PropOf K (He.ga K "Keeper") "held" (pAd K "Keeper" "held") (gAd K "Keeper" "held") := propB_ok (T.c.ex 8)
theorem TX.notice (T : TX w K mg) {H : Hp} {a dx : Addr} {fs : List (Str × V)} (e : H a = some (.ins (He.ga K "Notice") dx fs)) : TyX K H (.ref a) (.ref (He.ga K "Notice")) := by
  obtain ⟨h1, h⟩ := He.ba (T.c.ex 6)
  obtain ⟨h2, h⟩ := He.ba h
  obtain ⟨h3, h4⟩ := He.ba h
  exact .base (.ins e (T.cls "Notice") (He.eqO_ok h1) (He.eqO_ok h2) (of_decide_eq_true h3) (of_decide_eq_true h4))
theorem TX.lens (T : TX w K mg) : ∃ es n, KDict K w (He.ga K "LENGTHS") es n := T.c.tab 0
theorem TX.lenAt (T : TX w K mg) {z : Str} {i : Int} (h : (z, He.Dv.int i) ∈ ([("set", .int 3), ("say", .int 3), ("listen", .int 2), ("unlisten", .int 2)] : List (Str × He.Dv))) : ∃ t, PySem.W.nsIn K (He.ga K "LENGTHS") z = some (some (.int i t)) := by
  obtain ⟨u, h1, h2⟩ := He.valsB_ok (T.c.ex 11) h
  obtain ⟨t, e⟩ := (show ∃ t, u = Value.int i t from h2)
  subst e
  exact ⟨t, h1⟩
theorem kit_same {K : PySem.W.Frag} (t : Value) : PySem.W.kitOne K t t = some true := by
  unfold PySem.W.kitOne
  rw [if_pos (by simp)]
end
end CN
end
section
set_option Elab.async false
set_option linter.all false
set_option maxRecDepth 100000
set_option maxHeartbeats 4000000
/-! short rules; loops and comprehensions by recursion on what is left -/
namespace CN
open PySem PySem.Spec PyProof.Rows L2
section
variable {X : Cx} {x : Str} {e o : Expr} {te to : TE} {pos pos' : Pos}
theorem pe_gint {i : Int} (hg : Gl X x) (h : ∃ t, X.mg x = some (.int i t)) (hd : (x == ("__debug__" : Str)) = false := by decide) : PE X (.Name x pos) (tC (.int i)) :=
  let ⟨t, q⟩ := h
  pe_glob hg q ⟨t, rfl⟩ hd
theorem pe_gstr {z : Str} (hg : Gl X x) (h : ∃ t, X.mg x = some (.str z t)) (hd : (x == ("__debug__" : Str)) = false := by decide) : PE X (.Name x pos) (tC (.str z)) :=
  let ⟨t, q⟩ := h
  pe_glob hg q ⟨t, rfl⟩ hd
theorem pe_gref {a : Addr} (hg : Gl X x) (h : X.mg x = some (.ref a)) (hd : (x == ("__debug__" : Str)) = false := by decide) : PE X (.Name x pos) (tC (.ref a)) := pe_glob hg h rfl hd
theorem pgn (i : Nat) (nd : X.N.Nodup) (hi : X.N[i]? = some x := by rfl) (hx : Loc X.env.scope x := by first | exact Or.inl rfl | exact Or.inr rfl) (hf : X.fn x = true ∨ X.env.scope.names.lookup x = some .local := by first | exact .inl rfl | exact .inr rfl | assumption) : PG X (.Name x pos) (gName i) :=
  pg_name nd hi hx hf
theorem pst (i : Nat) (nd : X.N.Nodup) (he : PE X e te) (hi : X.N[i]? = some x := by rfl) (hx : Loc X.env.scope x := by first | exact Or.inl rfl | exact Or.inr rfl) (hs : swapsWith e (some (.Name x pos')) pos.line X.env = pure false := by rfl)
    (hf : X.fn x = true ∨ X.env.scope.names.lookup x = some .local := by first | exact .inl rfl | exact .inr rfl | assumption) : PS X (.Assign [.Name x pos'] e pos) (tAsg te (gName i)) := ps_set nd hi hx he hs hf
theorem psaug {op : Operator} {ti : TIp} (i : Nat) (nd : X.N.Nodup) (he : PE X e te) (ho : PIp X op ti) (hi : X.N[i]? = some x := by rfl) (hx : Loc X.env.scope x := by first | exact Or.inl rfl | exact Or.inr rfl)
    (hf : X.fn x = true ∨ X.env.scope.names.lookup x = some .local := by first | exact .inl rfl | exact .inr rfl | assumption) :
    PS X (.AugAssign (.Name x pos') op e pos) (tAug i te ti) := ps_aug nd hi hx he ho hf
def tKget (K : PySem.W.Frag) (d : Addr) (ty tx : TE) : TE := fun σ H Q => ty σ H fun y H1 => tx σ H1 fun _ H2 => ∃ (z : Str) (i : Int), y = .str z ∧ (∃ t, PySem.W.nsIn K d z = some (some (.int i t))) ∧ Q (.int i) H2
def tDisp1T (tk tv : TE) : TE := fun σ H Q => ∀ p, H p = none → tPairs [(tk, tv)] σ (upd H p (.dT [])) fun ps H2 => H2 p = some (.dT []) ∧ ∃ b ks y, ps = [(.ref b, y)] ∧ H2 b = some (.tup (ks.map kV)) ∧ Q (.ref p) (upd H2 p (.dT [(ks, y)]))
/-- LEN.get(k, x): a written dict, the key is there -/
theorem pe_kget {d : Addr} {f : Expr} {ty tx : TE} {apos cpos dpos : Pos} (D : ∃ es n, KDict X.K X.w d es n) (hg : Gl X x) (hm : X.mg x = some (.ref d)) (he : PE X e ty) (hf : PE X f tx) (hd : (x == ("__debug__" : Str)) = false := by decide)
    (m : M2 X (.Name x dpos) "get" apos e f cpos := by exact ⟨rfl, rfl, rfl, rfl⟩) :
    PE X (.Call (.Attribute (.Name x dpos) "get" apos) [e, f] [] cpos) (tKget X.K d ty tx) := by
  refine ⟨fun pins s σ H Q I h => ?_⟩
  obtain ⟨es, n, D⟩ := D
  have M := PySem.W.mapOf_K (prog := X.prog) (w := X.w) I.kIn D.at_ D.lit
  refine wpAny_Call_method m.base m.few m.line PySem.F.plainAttrs_dict PySem.F.slot_dict_get PySem.F.type_dict_get (ld_glob I hg hm ?_ hd)
  refine ⟨M.typeIs, fun b q => ?_, ?_⟩
  · cases q
    exact ⟨_, I.kIn _ _ D.at_, rfl⟩
  rw [m.trees]
  refine Calls.callWith_builtin rfl (Calls.evalArgs_plain (Calls.spliced_cons (thn (he.run pins s σ H _ I h) fun iv s2 ⟨y, H2, I2, ry, q2⟩ =>
    Calls.spliced_cons (thn (hf.run pins s2 σ H2 _ I2 q2) fun fv s3 ⟨z, H3, I3, rz, zs, i, ey, ⟨t, hn⟩, q3⟩ => Calls.spliced_nil ?_))))
  subst ey
  obtain ⟨u, rfl⟩ := (show ∃ u, iv = Value.str zs u from ry)
  have M3 := PySem.W.mapOf_K (prog := X.prog) (w := X.w) I3.kIn D.at_ D.lit
  refine call_meetsIn PySem.F.slot_dict_get M3.typeIs PySem.F.entry_dict_get (PySem.F.args_dict_get_3 _ _ _) (meets_dict_get_default (PySem.strKind X.prog X.w) d (PySem.strKind_is X.prog X.w zs u) D.low fv) ⟨_, M3, ?_⟩
  rw [PySem.W.find_K D.at_ hn]
  exact ⟨.int i, H3, I3.tok _, ⟨t, rfl⟩, q3⟩
/-- {k: v}, the key a tuple -/
theorem pe_disp1T {k v : Expr} {tk tv : TE} (hk : PE X k tk) (hv : PE X v tv) (hu : X.A.units + 1 < cLine := by first | exact hu_of ‹_› | assumption) :
    PE X (.Dict [some k] [v] pos) (tDisp1T tk tv) := by
  refine ⟨fun pins s σ H Q I q => ?_⟩
  have hn := I.hok.fresh (Nat.le_refl s.heap.objs.size)
  have I1 := I.laid (a := s.heap.objs.size) (o := .dT []) (h' := s.heap.push { cls := .type "dict", data := .dict #[] }) (t' := s.toks) (fun _ _ q => Heap.get?_push_of_some _ q) (Nat.le_refl _) (dt_empty s.heap I.big)
  have hP : PPs X pos [some k] [v] [(tk, tv)] := pps_cons hk hv pps_nil
  have hrun := hP.run pins _ σ _ _ I1 (q _ hn)
  have hshape : (evalEachOpt [some k] X.env).zip ((evalEach [v] X.env).map fun v => do let x ← v; standAt pos; pure x) = (pairTrees [some k] [v] X.env pos).map fun p => (some p.1, p.2) := rfl
  rw [arm_eval_Dict, hshape, dictDisplay_pairs (pairTrees [some k] [v] X.env pos) (by intro h; cases h) (by show 1 < 17; decide)]
  refine wpAny_bind (wpAny_standAt (wpAny_bind (wpAny_subDictH (knd := tupleKind (mixKind X.prog X.w)) (Q := fun d s' => wpAny (model X.prog X.w) X.A (pure (Value.ref d)) (EP X pins σ Q) X.xe s') (show X.A.units < cLine by omega) (by show 1 ≤ 15; decide)
    (wpAny_mono hrun (fun ws s2 hq => ?_) fun _ _ e => e))))
  obtain ⟨ps, H2, I2, rel, e, b, ks, y, ep, eb, q2⟩ := hq
  subst ep
  cases rel with
  | cons r1 r2 =>
    cases r2
    rename_i pr
    obtain ⟨pk, pvv⟩ := pr
    obtain ⟨rk, rv⟩ := r1
    cases (show pk = Value.ref b from rk)
    obtain ⟨z, hd, xs0, rel0, dd⟩ := dt_of I2.hok e
    cases rel0
    refine ⟨[(ks, b, pvv)], ⟨rfl, rfl, key_of I2.hok eb, trivial⟩, dd, fun h' tk dd' hs => wpAny_pure ⟨.ref s.heap.objs.size, _, ?_, rfl, q2⟩⟩
    obtain ⟨ob, es, ep, hq, h2, h3, h4, _, h5⟩ := dd'
    refine d_write I2 (by rw [e]; exact True.intro) hs ⟨ob, hq⟩ ⟨by show 1 ≤ sizeLine; decide, hd, [(ks, b, pvv)], .cons ⟨rfl, ?_, rv⟩ .nil, ob, es, ep, hq, h2, h3, h4, h5⟩
    show upd H2 s.heap.objs.size _ b = _
    rw [upd_ne (ne_of eb e (fun z => nomatch z))]
    exact eb
end
end CN
end
section
set_option Elab.async false
set_option linter.all false
set_option maxRecDepth 100000
set_option maxHeartbeats 4000000
/-! comprehensions whose turns lay only new objects -/
namespace CN
open PySem PySem.Spec PyProof.Rows L2
section
variable {α : Type} {H1 H H' H4 : Hp} {A : Addr} {xs : List α} {out : α → List V} {outK : α → List (Key × V)} {i : Nat} {x : α} {y : V}
/-- the list at A so far -/
structure LcI (H1 : Hp) (A : Addr) (xs : List α) (out : α → List V) (i : Nat) (H : Hp) : Prop where
  s : Same H1 H
  e : H A = some (.lst ((xs.take i).flatMap out))
theorem LcI.zero (h : H1 A = none) : LcI H1 A xs out 0 (upd H1 A (.lst [])) := ⟨Same.new h, upd_same⟩
theorem take_at (hx : xs[i]? = some x) : xs.take (i + 1) = xs.take i ++ [x] := by
  rw [List.take_add_one, hx]
  rfl
theorem LcI.skip (p : LcI H1 A xs out i H) (hx : xs[i]? = some x) (s : Same H H4) (h : out x = []) : LcI H1 A xs out (i + 1) H4 := by
  refine ⟨p.s.trans s, ?_⟩
  rw [take_at hx, List.flatMap_append, List.flatMap_cons, h]
  simpa using s _ _ p.e
theorem LcI.push (p : LcI H1 A xs out i H) (hA : H1 A = none) (hx : xs[i]? = some x) (s : Same H H4) (h : out x = [y]) (hl : ((xs.take i).flatMap out).length < sizeLine) :
    ∃ acc, H4 A = some (.lst acc) ∧ acc.length < sizeLine ∧ LcI H1 A xs out (i + 1) (upd H4 A (.lst (acc ++ [y]))) := by
  refine ⟨_, s _ _ p.e, hl, fun b o e => ?_, ?_⟩
  · rw [upd_ne (ne_of_none e hA)]
    exact s _ _ (p.s _ _ e)
  · rw [take_at hx, List.flatMap_append, List.flatMap_cons, h, upd_same]
    simp
theorem flat_le (h : ∀ x, (out x).length ≤ 1) : ∀ (l : List α), (l.flatMap out).length ≤ l.length
  | [] => Nat.le_refl _
  | a :: r => by
    rw [List.flatMap_cons, List.length_append, List.length_cons]
    have := h a
    have := flat_le h r
    omega
theorem flat_lt (h : ∀ x, (out x).length ≤ 1) (hn : xs.length < sizeLine) : ((xs.take i).flatMap out).length < sizeLine :=
  Nat.lt_of_le_of_lt (Nat.le_trans (flat_le h _) (by rw [List.length_take]; exact Nat.min_le_right _ _)) hn
theorem flat_one {f : α → V} : ∀ (l : List α), l.flatMap (fun x => [f x]) = l.map f
  | [] => rfl
  | a :: r => by rw [List.flatMap_cons, flat_one r]; rfl
theorem LcI.all (p : LcI H1 A xs out xs.length H) : H A = some (.lst (xs.flatMap out)) := by
  have := p.e
  rwa [List.take_length] at this
/-- the dict at A so far -/
def putAll (l : List (Key × V)) (d : List (Key × V)) : List (Key × V) := l.foldl (fun d p => putK d p.1 p.2) d
structure DcI (H1 : Hp) (A : Addr) (xs : List α) (outK : α → List (Key × V)) (i : Nat) (H : Hp) : Prop where
  s : Same H1 H
  e : H A = some (.dK (putAll ((xs.take i).flatMap outK) []))
theorem DcI.zero (h : H1 A = none) : DcI H1 A xs outK 0 (upd H1 A (.dK [])) := ⟨Same.new h, upd_same⟩
theorem DcI.skip (p : DcI H1 A xs outK i H) (hx : xs[i]? = some x) (s : Same H H4) (h : outK x = []) : DcI H1 A xs outK (i + 1) H4 := by
  refine ⟨p.s.trans s, ?_⟩
  rw [take_at hx, List.flatMap_append, List.flatMap_cons, h]
  simpa using s _ _ p.e
theorem DcI.push (p : DcI H1 A xs outK i H) (hA : H1 A = none) (hx : xs[i]? = some x) (s : Same H H4) {k : Key} {v : V} {z : V} (hz : z = kV k) (h : outK x = [(k, v)]) (hl : (putAll ((xs.take i).flatMap outK) []).length < sizeLine) :
    ∃ kvs k, z = kV k ∧ H4 A = some (.dK kvs) ∧ kvs.length < sizeLine ∧ DcI H1 A xs outK (i + 1) (upd H4 A (.dK (putK kvs k v))) := by
  refine ⟨_, k, hz, s _ _ p.e, hl, fun b o e => ?_, ?_⟩
  · rw [upd_ne (ne_of_none e hA)]
    exact s _ _ (p.s _ _ e)
  · rw [take_at hx, List.flatMap_append, List.flatMap_cons, h, upd_same]
    unfold putAll
    simp [List.foldl_append]
theorem DcI.all (p : DcI H1 A xs outK xs.length H) : H A = some (.dK (putAll (xs.flatMap outK) [])) := by
  have := p.e
  rwa [List.take_length] at this
theorem get_map {β : Type} {f : α → β} {b : β} (h : (xs.map f)[i]? = some b) : ∃ a, xs[i]? = some a ∧ b = f a := by
  rw [List.getElem?_map] at h
  cases e : xs[i]? with
  | none => rw [e] at h; cases h
  | some a => rw [e] at h; exact ⟨a, rfl, (Option.some.inj h).symm⟩
theorem blkN {X : Cx} {N ps : List Str} {sc scope : Scope} {own : List (Str × Nat)} (S : FnScope N ps sc) (hN : X.N = N := by rfl) (hs : X.env.scope = sc := by rfl) (h : blkC N sc scope own = true := by decide +kernel) : BlkOk X.N X.env.scope scope own := by
  rw [hN, hs]
  exact blkOk_by h
end
end CN
end
section
set_option Elab.async false
set_option linter.all false
set_option maxRecDepth 100000
set_option maxHeartbeats 4000000
/-! tuple[::-1] -/
namespace CN
open PySem PySem.Spec PyProof.Rows L2 HT
section
variable {prog : Program} {w : World} {A : Around} {E : Value → Shared → Prop} {s : Shared}
theorem adjust_rev (n : Nat) : Builtin.Slice.sliceAdjust none none (-1) (n : Int) = ((n : Int) - 1, -1) := by
  unfold Builtin.Slice.sliceAdjust
  simp
theorem places_rev (n : Nat) : Builtin.Slice.slicePlaces ((n : Int) - 1) (-1) (-1) = n := by
  unfold Builtin.Slice.slicePlaces
  simp
  omega
theorem fm_congr {α β : Type} {f g : α → Option β} : ∀ (l : List α), (∀ x ∈ l, f x = g x) → l.filterMap f = l.filterMap g
  | [], _ => rfl
  | a :: r, h => by
    rw [List.filterMap_cons, List.filterMap_cons, h a (.head _), fm_congr r fun x hx => h x (.tail _ hx)]
theorem pick_rev (xs : Array Value) : ((List.range xs.size).filterMap fun (m : Nat) => xs[(((xs.size : Nat) : Int) - 1 + (m : Int) * (-1)).toNat]?).toArray = xs.toList.reverse.toArray := by
  rw [← PySem.W.krv_all xs, ← List.filterMap_reverse, ← PySem.W.krv_range, List.filterMap_map]
  congr 1
  refine fm_congr _ fun m hm => ?_
  have := List.mem_range.mp hm
  have e : (((xs.size : Nat) : Int) - 1 + (m : Int) * (-1)).toNat = xs.size - 1 - m := by omega
  simp only [Function.comp, e]
theorem getItem_tuple_rev {t sl : Addr} {items : Array Value} {vs : Value} {Q : Value → Shared → Prop} (ht : IsTup s.heap t items) (hs : s.heap.IsSliceOf sl .none .none vs) (ps : IsPart vs (some (-1)))
    (h : Q (.ref s.heap.objs.size) { s with heap := s.heap.push { cls := .type "tuple", data := .seq items.toList.reverse.toArray } }) (hsz : items.size ≤ sizeLine) : wpAny (model prog w) A (getItem (.ref t) (.ref sl)) Q E s := by
  have htake : sizeOk (.seq items.toList.reverse.toArray) := by
    show items.toList.reverse.toArray.size ≤ sizeLine
    rw [List.size_toArray, List.length_reverse, Array.length_toList]
    omega
  obtain ⟨os, hos, hcs, hds⟩ := id hs
  have hTs : s.TypeIs (.ref sl) "slice" := ⟨os, hos, hcs⟩
  unfold getItem
  try with_reducible refine wpAny_holding ?_
  first | refine wpAny_bind (wpAny_pure ?_) | skip
  refine wpAny_bind (wpAny_sequenceKey ht.typeIs (by decide) ?_)
  refine wpAny_bind (wpAny_callSpecial?_slot (name := Str.ofString "__getitem__") ht.typeIs PyProof.Rows.slot_tuple_getitem
    (wpAny_call_entry PyProof.Rows.slot_tuple_getitem ht.typeIs entry_tuple_getitem ?_ (args_tuple_getitem _ _)))
  show wpAny _ _ (Builtin.Tuple.tupleItemsOf (.ref t) >>= _) _ _ s
  refine wpAny_bind (tupleItemsOf_ ht ?_)
  refine wpAny_bind (wpAny_typeOf hTs ?_)
  rw [if_pos (by decide)]
  have ha : ∀ A : Around, wpAny (model prog w) A (Builtin.Slice.sliceApplied (.ref sl) (pure (items.size : Int))) (fun r s' => r = ((items.size : Int) - 1, -1, items.size) ∧ s' = s) E s := by
    intro A
    unfold Builtin.Slice.sliceApplied Builtin.Slice.sliceFields
    refine wpAny_bind (wpAny_bind (wpAny_field hos hds (x := .none) rfl (wpAny_bind (wpAny_field hos hds (x := .none) rfl (wpAny_bind (wpAny_field hos hds (x := vs) rfl (wpAny_pure ?_)))))))
    refine wpAny_bind (slicePart_ ps ?_)
    show wpAny _ _ (if ((-1 : Int) == 0) = true then _ else _) _ _ s
    rw [if_neg (by decide)]
    refine wpAny_bind (slicePart_none (wpAny_bind (slicePart_none (wpAny_bind (wpAny_pure ?_)))))
    show wpAny _ _ (match Builtin.Slice.sliceAdjust none none (-1) (items.size : Int) with | (lo, hi) => pure (lo, (-1 : Int), Builtin.Slice.slicePlaces lo hi (-1))) _ _ s
    rw [adjust_rev]
    show wpAny _ _ (pure ((items.size : Int) - 1, (-1 : Int), Builtin.Slice.slicePlaces ((items.size : Int) - 1) (-1) (-1))) _ _ s
    rw [places_rev]
    exact wpAny_pure ⟨rfl, rfl⟩
  refine wpAny_bind (thn (ha _) fun r s' ⟨e1, e2⟩ => ?_)
  subst e1 e2
  have hno : ¬ ((((items.size : Int) - 1) == 0 && (-1 : Int) == 1 && items.size == items.size) = true) := by simp
  show wpAny _ _ (if (((items.size : Int) - 1) == 0 && (-1 : Int) == 1 && items.size == items.size) = true then _ else _) _ _ s'
  rw [if_neg hno, pick_rev]
  first
    | exact wpAny_bind (m := Builtin.Tuple.tupleExact _) (wpAny_newObj_type (wpAny_pure ⟨_, rfl, wpAny_pure h⟩) htake)
    | exact wpAny_bind (m := Builtin.Tuple.tupleExact _) (wpAny_newObj_type (wpAny_bind (wpAny_pure (wpAny_pure ⟨_, rfl, wpAny_pure h⟩))) htake)
    | exact wpAny_bind (wpAny_bind (m := Builtin.Tuple.tupleExact _) (wpAny_newObj_type (wpAny_pure (wpAny_pure ⟨_, rfl, wpAny_pure h⟩)) htake))
    | exact wpAny_bind (wpAny_bind (m := Builtin.Tuple.tupleExact _) (wpAny_newObj_type (wpAny_pure ⟨_, rfl, wpAny_pure h⟩) htake))
end
section
variable {X : Cx}
def tRevT (K : PySem.W.Frag) (te : TE) : TE := fun σ H Q => te σ H fun x H1 => ∃ a xs, x = .ref a ∧ SqT K H1 a xs ∧ ∀ p, H1 p = none → Q (.ref p) (upd H1 p (.tup xs.reverse))
theorem pe_revT {e : Expr} {te : TE} {k : Nat} {p1 p2 p3 pos : Pos} (he : PE X e te) : PE X (.Subscript e (.Slice none none (some (.UnaryOp .USub (.Constant (.int 1) k p1) p2)) p3) pos) (tRevT X.K te) := by
  refine ⟨fun pins s σ H Q I h => ?_⟩
  refine Subscript_ (thn (he.run pins s σ H _ I h) fun v s1 ⟨x, H1, I1, r1, q1⟩ => ?_)
  obtain ⟨a, xs, ex, hx, q⟩ := q1
  subst ex
  cases r1
  have hst : PO X (some (.UnaryOp .USub (.Constant (.int 1) k p1) p2)) (tPart (tUn (rU fun i => .int (-i)) (tC (.int 1)))) := po_some (pe_un un_neg pe_int)
  refine wpAny_Slice (thn (po_none.run pins s1 σ H1 (fun o H2 => o = none ∧ H2 = H1) I1 ⟨rfl, rfl⟩) fun vl s2 ⟨l, H2, I2, pl, el, e2⟩ => ?_)
  subst el e2
  refine thn (po_none.run pins s2 σ H2 (fun o H3 => o = none ∧ H3 = H2) I2 ⟨rfl, rfl⟩) fun vu s3 ⟨u, H3, I3, pu, eu, e3⟩ => ?_
  subst eu e3
  refine thn (hst.run pins s3 σ H3 (fun o H4 => o = some (-1) ∧ H4 = H3) I3 ⟨1, rfl, -1, rfl, rfl, rfl⟩) fun vs s4 ⟨o, H4, I4, ps, eo, e4⟩ => ?_
  subst eo e4
  have I5 : Inv X pins σ H4 { s4 with heap := s4.heap.push { cls := .type "slice", data := .fields #[vl, vu, vs] } } := I4.kept (t' := s4.toks) fun b ob q => Heap.get?_push_of_some _ q
  obtain ⟨its, r, ht, hz⟩ := I5.tuple hx
  have hlen := r.length
  show wpAny (model X.prog X.w) X.A (subscriptTail e (.Slice none none (some (.UnaryOp .USub (.Constant (.int 1) k p1) p2)) p3) (.ref a) (.ref s4.heap.objs.size)) (EP X pins σ Q) X.xe { s4 with heap := s4.heap.push { cls := .type "slice", data := .fields #[vl, vu, vs] } }
  refine tail_any (ops := [.ref a, .ref s4.heap.objs.size]) ht.typeIs (PyProof.Rows.slot_tuple_getitem.lookup) ?_ (by with_unfolding_all rfl)
  cases pl
  cases pu
  refine getItem_tuple_rev ht (Heap.IsSliceOf.new _ .none .none vs) ps ?_ (by rw [List.size_toArray]; omega)
  refine ⟨.ref _, _, I5.laid (t' := s4.toks) (o := .tup xs.reverse) (fun b ob q => Heap.get?_push_of_some _ q) (Nat.le_refl _) ?_, rfl, q _ (I5.hok.fresh (Nat.le_refl _))⟩
  exact ⟨by rw [List.length_reverse]; exact hz, _, r.reverse, IsTup.new _ _⟩
end
end CN
namespace CN
open PySem PySem.Spec PyProof.Rows L2
section
variable {P : Program} {w : World} {K : PySem.W.Frag} {mg : Str → Option Value} {base : Heap} {x qual : Str} {params : Arguments} {body : List Stmt} {scope : Scope} {kws : List (Str × V)} {f : Addr} {fd : FuncData}
/-- a def (.., *pv) -/
theorem fS {N ps : List Str} {k : Nat} {sp : Sp} {pv : Str} (F : FunD K x qual params body scope [] kws f fd) (S : FnScope N (ps ++ [pv]) scope)
    (hb : ∀ (kV doc pm : Value) (an : Option Addr) (cdv ct : Value) (us rest : List Value), us.length = ps.length → bindArgs (PySem.W.fnOf x qual params body scope .none kV doc pm an cdv ct) ⟨us ++ rest, []⟩ = (newTuple rest >>= fun t => pure (ps.zip us ++ [(pv, t)])))
    (hbody : ∀ (cdv : Value) (A : Around) (outer : List Env) (s : Shared) (H : Hp) (vs : List V) (Q : VK) (E : XK), Room k (A.deeper (envOfC qual scope s.heap.objs.size f cdv)) → sp vs H Q E →
      ∃ t, PSs (cxOf CX0 P w K mg base N qual scope f cdv A outer s H E).nox body t ∧ t { nx := fun _ H' => Q .non H', rt := Q } (start N vs) H) :
    FnR P w K mg base CX0 (k + 1) f (fun vs H Q E => ∃ ws rest, vs = ws ++ rest ∧ ws.length = ps.length ∧ rest.length ≤ sizeLine ∧ ∀ p, H p = none → sp (ws ++ [V.ref p]) (upd H p (.tup rest)) Q E) := by
  obtain ⟨oc, od, dV, kV, doc, pm, an, cdv, ct, osl, rfl, lk, hcd, hD, hK⟩ := F.ex
  rcases hD with ⟨_, rfl⟩ | ⟨e, _⟩
  · exact StX.fn_star lk hcd S StX.cxUp_none (hb kV doc pm an cdv ct) fun A outer s H vs Q E hr h => by
      obtain ⟨t, h1, h2⟩ := hbody cdv A outer s H vs Q E hr h
      exact ⟨t, h1.nox, h2⟩
  · exact absurd rfl e
theorem ll {n : Nat} (h : Nat.ble n 16777216 = true) : n ≤ sizeLine := by
  rw [sizeLine_eq]
  exact Nat.le_of_ble_eq_true h
theorem ls {n : Nat} (h : Nat.blt n 16777216 = true) : n < sizeLine := by
  rw [sizeLine_eq]
  exact Nat.le_of_ble_eq_true h
theorem sT {a b : Str} (h : a = b) : decide (V.str a = V.str b) = true := decide_eq_true (congrArg V.str h)
theorem sF {a b : Str} (h : a ≠ b) : decide (V.str a = V.str b) = false := decide_eq_false fun e => h (by injection e)
theorem iT {a b : Int} (h : a = b) : decide (V.int a = V.int b) = true := decide_eq_true (congrArg V.int h)
theorem iF {a b : Int} (h : a ≠ b) : decide (V.int a = V.int b) = false := decide_eq_false fun e => h (by injection e)
theorem Same.wr {H H' : Hp} {a : Addr} {o : HO} (s : Same H H') (h : H a = none) : Same H (upd H' a o) := fun b u e => by
  rw [upd_ne (ne_of_none e h)]
  exact s _ _ e
theorem Same.lst {H H' : Hp} {K : PySem.W.Frag} {a : Addr} {xs : List V} (e : Same H H') (h : SqL K H a xs) : SqL K H' a xs := by
  rcases h with (h | ⟨o, h⟩) | h
  · exact .inl (.inl (e _ _ h))
  · exact .inl (.inr ⟨o, e _ _ h⟩)
  · exact .inr h
theorem lt_le {n m : Nat} (h : Nat.ble n m = true) : n ≤ m := Nat.le_of_ble_eq_true h
end
end CN
end
section
set_option Elab.async false
set_option linter.all false
set_option maxRecDepth 100000
set_option maxHeartbeats 4000000
namespace CN
open PySem PySem.Spec PyProof.Rows L2
local macro_rules | `(tactic| trivial) => `(tactic| exact Led.get (by assumption) 9)
local macro_rules | `(tactic| trivial) => `(tactic| exact Led.get (by assumption) 8)
local macro_rules | `(tactic| trivial) => `(tactic| exact Led.get (by assumption) 7)
local macro_rules | `(tactic| trivial) => `(tactic| exact Led.get (by assumption) 6)
local macro_rules | `(tactic| trivial) => `(tactic| exact Led.get (by assumption) 5)
local macro_rules | `(tactic| trivial) => `(tactic| exact Led.get (by assumption) 4)
local macro_rules | `(tactic| trivial) => `(tactic| exact Led.get (by assumption) 3)
local macro_rules | `(tactic| trivial) => `(tactic| exact Led.get (by assumption) 2)
local macro_rules | `(tactic| trivial) => `(tactic| exact Led.get (by assumption) 1)
local macro_rules | `(tactic| trivial) => `(tactic| exact Led.get (by assumption) 0)
section
variable {P : Program} {w : World} {K : PySem.W.Frag} {mg : Str → Option Value} {base : Heap}
/-! ### signs -/
def inB (z sg : Str) : Bool := z.cps.toList.all fun c => decide (c ∈ sg.cps.toList)
def okS (z sg : Str) : Bool := decide (1 ≤ z.length) && (decide (z.length ≤ 6) && inB z sg)
abbrev LETS : Str := "abcdefghijklmnopqrstuvwxyz"
abbrev SGNS : Str := "abcdefghijklmnopqrstuvwxyz0123456789"
abbrev okN (z : Str) : Bool := okS z LETS
abbrev okW (z : Str) : Bool := okS z SGNS
theorem lt_b {n m : Nat} (h : Nat.blt n m = true) : n < m := Nat.le_of_ble_eq_true h
theorem inV_strs {z : Str} {l : List Str} : inV (.str z) (l.map V.str) = l.contains z := by
  unfold inV
  rw [List.any_map, Bool.eq_iff_iff]
  simp only [List.any_eq_true, List.contains_iff_mem, Function.comp]
  exact ⟨fun ⟨y, h1, h2⟩ => (eq_of_beq (show (y == z) = true from h2)) ▸ h1, fun h => ⟨z, h, (beq_self_eq_true z : (z == z) = true)⟩⟩
theorem u65 {k : Nat} {A : Around} (r : Room k A) : A.units + 65 < cLine := by
  have := r.un
  omega
theorem line_eq : sizeLine = 16777216 := sizeLine_eq
def sp_is_between (K : PySem.W.Frag) : Sp := fun vs H Q E => ∃ x lo hi, vs = [.int x, .int lo, .int hi] ∧ Q (.bl (decide (lo ≤ x ∧ x ≤ hi))) H
theorem sc_is_between : FnScope ["thing", "low", "high"] ["thing", "low", "high"] (defScope s_is_between) := ⟨rfl, rfl, rfl, by decide +kernel, rfl, by decide +kernel, by decide +kernel⟩
theorem ok_is_between (T : TX w K mg) : FnR P w K mg base CX0 1 (a_is_between K) (sp_is_between K) := by
  obtain ⟨fd, F⟩ := T.fn 0 rfl rfl
  refine fR F sc_is_between (fun _ _ _ _ _ _ us hl => match us, hl with | [_, _, _], _ => rfl) (fun vs H Q E h => ?_) (fun cdv A outer s H vs Q E hr h => ?_)
  · obtain ⟨x, lo, hi, rfl, k⟩ := h
    rfl
  · obtain ⟨x, lo, hi, rfl, k⟩ := h
    refine ⟨_, (pss_one (ps_ret (pe_and (pe_callB call_isi (by rfl) (T.free "isinstance") (by decide +kernel) (pa_cons (pv 0) (pa_cons (pe_bltn (v := .ty "int") (by rfl) (T.free "int") (by decide +kernel) rfl) pa_nil))) (pe_and (pe_not (pe_callB call_isi (by rfl) (T.free "isinstance") (by decide +kernel) (pa_cons (pv 0) (pa_cons (pe_bltn (v := .ty "bool") (by rfl) (T.free "bool") (by decide +kernel) rfl) pa_nil)))) (pe_one (pe_chain op_le op_le (pv 1) (pv 0) (pv 2))))))), ?_⟩
    refine ⟨_, rfl, _, _, _, _, true, rfl, .ty "int", .base (.int _), kit_same _, true, rfl, ?_⟩
    refine ⟨_, rfl, _, _, _, _, false, rfl, .ty "bool", .base (.int _), by rfl, false, rfl, true, rfl, ?_⟩
    refine ⟨_, rfl, _, rfl, _, _, rfl, rfl, _, rfl, ?_⟩
    by_cases h1 : lo ≤ x
    · rw [if_pos (decide_eq_true h1)]
      refine ⟨_, rfl, _, _, rfl, rfl, ?_⟩
      have e : decide (x ≤ hi) = decide (lo ≤ x ∧ x ≤ hi) := by simp [h1]
      rw [← e] at k
      exact k
    · rw [if_neg (by simp [h1])]
      have e : false = decide (lo ≤ x ∧ x ≤ hi) := by simp [h1]
      rw [← e] at k
      exact k
def sp_is_string_of (K : PySem.W.Frag) : Sp := fun vs H Q E => ∃ z sg, vs = [.str z, .str sg] ∧ okS z sg = true ∧ ∀ H', Same H H' → Q (.bl true) H'
theorem sc_is_string_of : FnScope ["thing", "signs", "sign"] ["thing", "signs"] (defScope s_is_string_of) := ⟨rfl, rfl, rfl, by decide +kernel, rfl, by decide +kernel, by decide +kernel⟩
theorem ok_is_string_of (T : TX w K mg) : FnR P w K mg base CX0 1 (a_is_string_of K) (sp_is_string_of K) := by
  obtain ⟨fd, F⟩ := T.fn 1 rfl rfl
  refine fR F sc_is_string_of (fun _ _ _ _ _ _ us hl => match us, hl with | [_, _], _ => rfl) (fun vs H Q E h => ?_) (fun cdv A outer s H vs Q E hr h => ?_)
  · obtain ⟨z, sg, rfl, hz, k⟩ := h
    rfl
  · obtain ⟨z, sg, rfl, hz, k⟩ := h
    refine ⟨_, (pss_one (ps_ret (pe_and (pe_callB call_isi (by rfl) (T.free "isinstance") (by decide +kernel) (pa_cons (pv 0) (pa_cons (pe_bltn (v := .ty "str") (by rfl) (T.free "str") (by decide +kernel) rfl) pa_nil))) (pe_and (pe_chain op_le op_le pe_int (pe_callB call_len_str (by rfl) (T.free "len") (by decide +kernel) (pa_cons (pv 0) pa_nil)) (pe_gint rfl (T.gint "LONGEST" (6)))) (pe_one (pe_callB (cr_all rfl) (by rfl) (T.free "all") (by decide +kernel) (pa_cons (pe_lc (own := [("sign", 2)]) rfl sc_is_string_of.nd (pi_str (pv 0)) (blkN sc_is_string_of) (fun _ _ _ _ _ => pgn 2 sc_is_string_of.nd) (fun _ _ _ _ _ => pts_nil) (fun _ _ _ _ _ => pe_cmpR op_in_sign (pv 2) (pv 1) (by rfl))) pa_nil))))))), ?_⟩
    obtain ⟨h1, h2⟩ := He.ba hz
    obtain ⟨h2, h3⟩ := He.ba h2
    have h1 : 1 ≤ z.length := of_decide_eq_true h1
    have h2 : z.length ≤ 6 := of_decide_eq_true h2
    have hs := line_eq
    have hc : ∀ i c, z.cps[i]? = some c → c ∈ sg.cps.toList := fun i c e => of_decide_eq_true (List.all_eq_true.mp h3 c (List.mem_of_getElem? (i := i) (by simpa using e)))
    refine ⟨_, rfl, _, _, _, _, true, rfl, .ty "str", .base (.str _), kit_same _, true, rfl, ?_⟩
    refine ⟨_, rfl, _, rfl, by omega, _, _, rfl, rfl, true, congrArg V.bl (decide_eq_true (by omega)), _, _, rfl, rfl, true, congrArg V.bl (decide_eq_true (by omega)), ?_⟩
    refine ⟨_, rfl, _, rfl, fun A hA => lc_it walk_str (LcI H A z.cps.toList (fun _ => [V.bl true])) (LcI.zero hA) (fun _ _ _ _ => True.intro) (fun i x H2 H3 hi p y => ?_) (fun H2 p => ⟨_, List.replicate z.cps.toList.length true, rfl, .inl (.inl ?_), ?_⟩)⟩
    · obtain ⟨rfl, c, hx, rfl⟩ := y
      refine ⟨rfl, _, rfl, _, rfl, c, sg, rfl, rfl, ?_⟩
      rw [decide_eq_true (hc i c hx)]
      exact p.push hA (by simpa using hx) (fun _ _ e => e) rfl (flat_lt (fun _ => Nat.le_refl _) (by show z.cps.size < sizeLine; have : z.cps.size = z.length := rfl; omega))
    · have e := LcI.all (p : LcI H A z.cps.toList (fun _ => [V.bl true]) z.cps.toList.length H2)
      rw [e, flat_one]
      simp [List.map_const']
    · rw [show (List.replicate z.cps.toList.length true).all id = true by simp]
      exact k _ p.s
def sp_is_name (K : PySem.W.Frag) : Sp := fun vs H Q E => ∃ z, vs = [.str z] ∧ okN z = true ∧ ∀ H', Same H H' → Q (.bl true) H'
theorem sc_is_name : FnScope ["thing"] ["thing"] (defScope s_is_name) := ⟨rfl, rfl, rfl, by decide +kernel, rfl, by decide +kernel, by decide +kernel⟩
theorem ok_is_name (T : TX w K mg) : FnR P w K mg base CX0 2 (a_is_name K) (sp_is_name K) := by
  obtain ⟨fd, F⟩ := T.fn 2 rfl rfl
  refine fR F sc_is_name (fun _ _ _ _ _ _ us hl => match us, hl with | [_], _ => rfl) (fun vs H Q E h => ?_) (fun cdv A outer s H vs Q E hr h => ?_)
  · obtain ⟨z, rfl, hz, k⟩ := h
    rfl
  · obtain ⟨z, rfl, hz, k⟩ := h
    refine ⟨_, (pss_one (ps_ret (pe_cf (ok_is_string_of T) (hr.mono (by decide)) (by rfl) (T.gf "is_string_of") (pa_cons (pv 0) (pa_cons (pe_gstr rfl (T.gstr "LETTERS" LETS)) pa_nil))))), ?_⟩
    exact ⟨_, rfl, _, _, rfl, hz, k⟩
def sp_is_word (K : PySem.W.Frag) : Sp := fun vs H Q E => ∃ z, vs = [.str z] ∧ okW z = true ∧ ∀ H', Same H H' → Q (.bl true) H'
theorem sc_is_word : FnScope ["thing"] ["thing"] (defScope s_is_word) := ⟨rfl, rfl, rfl, by decide +kernel, rfl, by decide +kernel, by decide +kernel⟩
theorem ok_is_word (T : TX w K mg) : FnR P w K mg base CX0 2 (a_is_word K) (sp_is_word K) := by
  obtain ⟨fd, F⟩ := T.fn 3 rfl rfl
  refine fR F sc_is_word (fun _ _ _ _ _ _ us hl => match us, hl with | [_], _ => rfl) (fun vs H Q E h => ?_) (fun cdv A outer s H vs Q E hr h => ?_)
  · obtain ⟨z, rfl, hz, k⟩ := h
    rfl
  · obtain ⟨z, rfl, hz, k⟩ := h
    refine ⟨_, (pss_one (ps_ret (pe_cf (ok_is_string_of T) (hr.mono (by decide)) (by rfl) (T.gf "is_string_of") (pa_cons (pv 0) (pa_cons (pe_gstr rfl (T.gstr "SIGNS" SGNS)) pa_nil))))), ?_⟩
    exact ⟨_, rfl, _, _, rfl, hz, k⟩
def sp_need_name (K : PySem.W.Frag) : Sp := fun vs H Q E => ∃ z, vs = [.str z] ∧ okN z = true ∧ ∀ H', Same H H' → Q .non H'
theorem sc_need_name : FnScope ["thing"] ["thing"] (defScope s_need_name) := ⟨rfl, rfl, rfl, by decide +kernel, rfl, by decide +kernel, by decide +kernel⟩
theorem ok_need_name (T : TX w K mg) : FnR P w K mg base CX0 3 (a_need_name K) (sp_need_name K) := by
  obtain ⟨fd, F⟩ := T.fn 4 rfl rfl
  refine fR F sc_need_name (fun _ _ _ _ _ _ us hl => match us, hl with | [_], _ => rfl) (fun vs H Q E h => ?_) (fun cdv A outer s H vs Q E hr h => ?_)
  · obtain ⟨z, rfl, hz, k⟩ := h
    rfl
  · obtain ⟨z, rfl, hz, k⟩ := h
    refine ⟨_, (pss_one (ps_if (pt_not (pt_val (pe_cf (ok_is_name T) (hr.mono (by decide)) (by rfl) (T.gf "is_name") (pa_cons (pv 0) pa_nil))))
        (pss_one ps_never)
        pss_nil)), ?_⟩
    exact ⟨_, rfl, _, rfl, hz, fun H' s => ⟨true, rfl, k _ s⟩⟩
def sp_need_word (K : PySem.W.Frag) : Sp := fun vs H Q E => ∃ z, vs = [.str z] ∧ okW z = true ∧ ∀ H', Same H H' → Q .non H'
theorem sc_need_word : FnScope ["thing"] ["thing"] (defScope s_need_word) := ⟨rfl, rfl, rfl, by decide +kernel, rfl, by decide +kernel, by decide +kernel⟩
theorem ok_need_word (T : TX w K mg) : FnR P w K mg base CX0 3 (a_need_word K) (sp_need_word K) := by
  obtain ⟨fd, F⟩ := T.fn 5 rfl rfl
  refine fR F sc_need_word (fun _ _ _ _ _ _ us hl => match us, hl with | [_], _ => rfl) (fun vs H Q E h => ?_) (fun cdv A outer s H vs Q E hr h => ?_)
  · obtain ⟨z, rfl, hz, k⟩ := h
    rfl
  · obtain ⟨z, rfl, hz, k⟩ := h
    refine ⟨_, (pss_one (ps_if (pt_not (pt_val (pe_cf (ok_is_word T) (hr.mono (by decide)) (by rfl) (T.gf "is_word") (pa_cons (pv 0) pa_nil))))
        (pss_one ps_never)
        pss_nil)), ?_⟩
    exact ⟨_, rfl, _, rfl, hz, fun H' s => ⟨true, rfl, k _ s⟩⟩
def sp_need_rule (K : PySem.W.Frag) : Sp := fun vs H Q E => ∃ z, vs = [.str z] ∧ lRULES.contains z = true ∧ Q .non H
theorem sc_need_rule : FnScope ["thing"] ["thing"] (defScope s_need_rule) := ⟨rfl, rfl, rfl, by decide +kernel, rfl, by decide +kernel, by decide +kernel⟩
theorem ok_need_rule (T : TX w K mg) : FnR P w K mg base CX0 1 (a_need_rule K) (sp_need_rule K) := by
  obtain ⟨fd, F⟩ := T.fn 6 rfl rfl
  refine fR F sc_need_rule (fun _ _ _ _ _ _ us hl => match us, hl with | [_], _ => rfl) (fun vs H Q E h => ?_) (fun cdv A outer s H vs Q E hr h => ?_)
  · obtain ⟨z, rfl, hz, k⟩ := h
    rfl
  · obtain ⟨z, rfl, hz, k⟩ := h
    refine ⟨_, (pss_one (ps_if (PW.pt (pw_or (pt_not (pt_val (pe_callB call_isi (by rfl) (T.free "isinstance") (by decide +kernel) (pa_cons (pv 0) (pa_cons (pe_bltn (v := .ty "str") (by rfl) (T.free "str") (by decide +kernel) rfl) pa_nil))))) (pw_or1 (pt_cmpR op_notIn_seq (pv 0) (pe_gref rfl (T.ref "RULES")) (by rfl)))))
        (pss_one ps_never)
        pss_nil)), ?_⟩
    refine ⟨_, rfl, _, _, _, _, true, rfl, .ty "str", .base (.str _), kit_same _, true, rfl, ?_⟩
    refine ⟨_, rfl, _, _, rfl, .inr (T.rules H), rfl, by rfl, _, rfl, ?_⟩
    rw [inV_strs, hz]
    exact k
def sp_Notice___init__ (K : PySem.W.Frag) : Sp := fun vs H Q E => ∃ a dx c z, vs = [.ref a, .str c, .str z] ∧ H a = some (.ins (He.ga K "Notice") dx []) ∧ okN c = true ∧ okW z = true ∧ ∀ H', Fr [a] H H' → H' a = some (.ins (He.ga K "Notice") dx [("channel", .str c), ("word", .str z)]) → Q .non H'
theorem sc_Notice___init__ : FnScope ["self", "channel", "word"] ["self", "channel", "word"] (defScope s_Notice___init__) := ⟨rfl, rfl, rfl, by decide +kernel, rfl, by decide +kernel, by decide +kernel⟩
theorem ok_Notice___init__ (T : TX w K mg) : FnR P w K mg base CX0 4 (a_Notice___init__ K) (sp_Notice___init__ K) := by
  obtain ⟨fd, F⟩ := T.fn 7 rfl rfl
  refine fR F sc_Notice___init__ (fun _ _ _ _ _ _ us hl => match us, hl with | [_, _, _], _ => rfl) (fun vs H Q E h => ?_) (fun cdv A outer s H vs Q E hr h => ?_)
  · obtain ⟨a, dx, c, z, rfl, ha, hc, hz, k⟩ := h
    rfl
  · obtain ⟨a, dx, c, z, rfl, ha, hc, hz, k⟩ := h
    refine ⟨_, (pss_cons (ps_expr (pe_cf (ok_need_name T) (hr.mono (by decide)) (by rfl) (T.gf "need_name") (pa_cons (pv 1) pa_nil)))
      (pss_cons (ps_expr (pe_cf (ok_need_word T) (hr.mono (by decide)) (by rfl) (T.gf "need_word") (pa_cons (pv 2) pa_nil)))
      (pss_cons (ps_fd (T.cls "Notice") (T.na "Notice" "channel") (pv 0) (pv 1))
      (pss_one (ps_fd (T.cls "Notice") (T.na "Notice" "word") (pv 0) (pv 2)))))), ?_⟩
    refine ⟨_, rfl, _, rfl, hc, fun H1 s1 => ⟨_, rfl, _, rfl, hz, fun H2 s2 => ⟨_, rfl, _, rfl, a, dx, [], _, rfl, s2 _ _ (s1 _ _ ha), rfl, lt_b rfl, _, rfl, _, rfl, a, dx, _, _, rfl, upd_same, rfl, lt_b rfl, ?_⟩⟩⟩
    refine k _ (((Fr.same (s1.trans s2)).trans (Fr.upd (.head _))).trans (Fr.upd (.head _))) upd_same
def sp_need_notice (K : PySem.W.Frag) : Sp := fun vs H Q E => ∃ a dx fs, vs = [.ref a] ∧ H a = some (.ins (He.ga K "Notice") dx fs) ∧ Q .non H
theorem sc_need_notice : FnScope ["thing"] ["thing"] (defScope s_need_notice) := ⟨rfl, rfl, rfl, by decide +kernel, rfl, by decide +kernel, by decide +kernel⟩
theorem ok_need_notice (T : TX w K mg) : FnR P w K mg base CX0 1 (a_need_notice K) (sp_need_notice K) := by
  obtain ⟨fd, F⟩ := T.fn 8 rfl rfl
  refine fR F sc_need_notice (fun _ _ _ _ _ _ us hl => match us, hl with | [_], _ => rfl) (fun vs H Q E h => ?_) (fun cdv A outer s H vs Q E hr h => ?_)
  · obtain ⟨a, dx, fs, rfl, ha, k⟩ := h
    rfl
  · obtain ⟨a, dx, fs, rfl, ha, k⟩ := h
    refine ⟨_, (pss_one (ps_if (pt_not (pt_val (pe_callB call_isi (by rfl) (T.free "isinstance") (by decide +kernel) (pa_cons (pv 0) (pa_cons (pe_gref rfl (T.ref "Notice")) pa_nil)))))
        (pss_one ps_never)
        pss_nil)), ?_⟩
    exact ⟨_, rfl, _, _, _, _, true, rfl, .own _, T.notice ha, kit_same _, true, rfl, k⟩
    
end
end CN
end
section
set_option Elab.async false
set_option linter.all false
set_option maxRecDepth 100000
set_option maxHeartbeats 4000000
namespace CN
open PySem PySem.Spec PyProof.Rows L2
local macro_rules | `(tactic| trivial) => `(tactic| exact Led.get (by assumption) 9)
local macro_rules | `(tactic| trivial) => `(tactic| exact Led.get (by assumption) 8)
local macro_rules | `(tactic| trivial) => `(tactic| exact Led.get (by assumption) 7)
local macro_rules | `(tactic| trivial) => `(tactic| exact Led.get (by assumption) 6)
local macro_rules | `(tactic| trivial) => `(tactic| exact Led.get (by assumption) 5)
local macro_rules | `(tactic| trivial) => `(tactic| exact Led.get (by assumption) 4)
local macro_rules | `(tactic| trivial) => `(tactic| exact Led.get (by assumption) 3)
local macro_rules | `(tactic| trivial) => `(tactic| exact Led.get (by assumption) 2)
local macro_rules | `(tactic| trivial) => `(tactic| exact Led.get (by assumption) 1)
local macro_rules | `(tactic| trivial) => `(tactic| exact Led.get (by assumption) 0)
section
variable {P : Program} {w : World} {K : PySem.W.Frag} {mg : Str → Option Value} {base : Heap}
def NoteF (c z : Str) : List (Str × V) := [("channel", .str c), ("word", .str z)]
def Note (K : PySem.W.Frag) (H : Hp) (n : Addr) : Prop := ∃ dx c z, okN c = true ∧ okW z = true ∧ H n = some (.ins (He.ga K "Notice") dx (NoteF c z))
def One (K : PySem.W.Frag) (H : Hp) (ns : List V) : Prop := ns = [] ∨ ∃ n, ns = [.ref n] ∧ Note K H n
theorem ok_str {z sg : Str} (h : okS z sg = true) (hs : sg.cps.toList.all (fun c => decide (c < 0x110000)) = true) : PyData.strOk z = true := by
  obtain ⟨_, h2⟩ := He.ba h
  obtain ⟨_, h3⟩ := He.ba h2
  unfold PyData.strOk
  rw [← Array.all_toList, List.all_eq_true]
  exact fun c hc => List.all_eq_true.mp hs c (of_decide_eq_true (List.all_eq_true.mp h3 c hc))
theorem okN_str {z : Str} (h : okN z = true) : PyData.strOk z = true := ok_str h (by decide +kernel)
theorem okW_str {z : Str} (h : okW z = true) : PyData.strOk z = true := ok_str h (by decide +kernel)
theorem pair_shaped {c z : Str} (hc : okN c = true) (hz : okW z = true) : SeqAt.shaped (.tuple [.str c, .str z]) = true := by
  show (PyData.canLay0 (.tuple [.str c, .str z]) && decide (PyData.depth (.tuple [.str c, .str z]) ≤ 64)) = true
  rw [Bool.and_eq_true]
  refine ⟨?_, rfl⟩
  simp [PyData.canLay0, PyData.canLayAll0, okN_str hc, okW_str hz]
theorem Note.same {H H' : Hp} {n : Addr} (s : Same H H') : Note K H n → Note K H' n := fun ⟨dx, c, z, h1, h2, e⟩ => ⟨dx, c, z, h1, h2, s _ _ e⟩
theorem One.same {H H' : Hp} {ns : List V} (s : Same H H') : One K H ns → One K H' ns := fun h => h.imp id fun ⟨n, e, q⟩ => ⟨n, e, q.same s⟩
theorem One.rev {ns : List V} {H : Hp} (o : One K H ns) : ns.reverse = ns := by
  rcases o with rfl | ⟨n, rfl, _⟩ <;> rfl
theorem One.len {ns : List V} {H : Hp} (o : One K H ns) : ns.length ≤ 1 := by
  rcases o with rfl | ⟨n, rfl, _⟩ <;> simp
def sp_once (K : PySem.W.Frag) : Sp := fun vs H Q E => ∃ a ns, vs = [.ref a] ∧ SqT K H a ns ∧ One K H ns ∧ ∀ H' p, Same H H' → H p = none → H' p = some (.lst ns) → Q (.ref p) H'
theorem sc_once : FnScope ["notices", "known", "kept", "notice"] ["notices"] (defScope s_once) := ⟨rfl, rfl, rfl, by decide +kernel, rfl, by decide +kernel, by decide +kernel⟩
theorem ok_once (T : TX w K mg) : FnR P w K mg base CX0 1 (a_once K) (sp_once K) := by
  obtain ⟨fd, F⟩ := T.fn 9 rfl rfl
  refine fR F sc_once (fun _ _ _ _ _ _ us hl => match us, hl with | [_], _ => rfl) (fun vs H Q E h => ?_) (fun cdv A outer s H vs Q E hr h => ?_)
  · obtain ⟨a, ns, rfl, ha, ho, k⟩ := h
    rfl
  · obtain ⟨a, ns, rfl, ha, ho, k⟩ := h
    refine ⟨_, (pss_cons (pst 1 sc_once.nd (pe_lst pa_nil))
      (pss_cons (pst 2 sc_once.nd (pe_lst pa_nil))
      (pss_cons (ps_for PassesOwn.never rfl (pi_tup (pv 0)) (pgn 3 sc_once.nd)
        (pss_one (ps_if (pt_cmpR (op_notInD (u65 hr)) (pe_tup (pa_cons (pe_fd (T.cls "Notice") (T.na "Notice" "channel") (pv 3)) (pa_cons (pe_fd (T.cls "Notice") (T.na "Notice" "word") (pv 3)) pa_nil))) (pv 1) (by rfl))
          (pss_cons (ps_expr (pe_bm PySem.F.plainAttrs_list PySem.F.slot_list_append PySem.F.type_list_append mt_append (pv 1) (pa_cons (pe_tup (pa_cons (pe_fd (T.cls "Notice") (T.na "Notice" "channel") (pv 3)) (pa_cons (pe_fd (T.cls "Notice") (T.na "Notice" "word") (pv 3)) pa_nil))) pa_nil)))
          (pss_one (ps_expr (pe_bm PySem.F.plainAttrs_list PySem.F.slot_list_append PySem.F.type_list_append mt_append (pv 2) (pa_cons (pv 3) pa_nil)))))
          pss_nil)))
      (pss_one (ps_ret (pv 2)))))), ?_⟩
    refine ⟨Nat.zero_le _, fun p1 h1 => ⟨Nat.zero_le _, fun p2 h2 => ?_⟩⟩
    have n21 : p2 ≠ p1 := fun e => by rw [e, upd_same] at h2; cases h2
    have h2' : H p2 = none := by rwa [upd_ne n21] at h2
    have s2 : Same H (upd (upd H p1 (.lst [])) p2 (.lst [])) := (Same.new h1).trans (Same.new h2)
    refine ⟨_, rfl, a, rfl, ⟨ns, Same.tup s2 ha⟩, for_it (walk_tup (xs := ns)) (fun i σ H' => ∃ u, σ = [some (.ref a), some (.ref p1), some (.ref p2), u] ∧ Same H H' ∧ H' p2 = some (.lst (ns.take i)) ∧ (i = 0 → H' p1 = some (.lst []))) ⟨_, rfl, s2, upd_same, fun _ => by rw [upd_ne n21.symm]; exact upd_same⟩ (fun i σ H' _ p => ?_) (fun i x σ H1 H2 hi p y => ?_) (fun σ H1 p => ?_)⟩
    · obtain ⟨_, _, s, _⟩ := p
      exact Same.tup s ha
    · obtain ⟨rfl, hx⟩ := y
      obtain ⟨u, rfl, s, e2, e1⟩ := p
      have hl := ho.len
      obtain rfl : i = 0 := by omega
      have e1 := e1 rfl
      rcases ho with rfl | ⟨n, rfl, dx, c, z, hc, hz, en⟩
      · cases hx
      · cases hx
        have en := s _ _ en
        refine ⟨_, rfl, _, _, _, _, rfl, en, rfl, _, rfl, _, _, _, _, rfl, en, rfl, by rw [line_eq]; exact lt_le rfl, fun q hq => ?_⟩
        have s3 := Same.new (o := .tup [.str c, .str z]) hq
        refine ⟨_, rfl, .tuple [.str c, .str z], [], .tup (.of upd_same) (.cons (.str _) (.cons (.str _) .nil)),   .lst (.of (s3 _ _ e1)) .nil, pair_shaped hc hz, rfl, true, rfl, ?_⟩
        have en := s3 _ _ en
        refine ⟨_, rfl, .inl ⟨rfl, _, .of (s3 _ _ e1)⟩, _, rfl, _, _, _, _, rfl, en, rfl, _, rfl, _, _, _, _, rfl, en, rfl, by rw [line_eq]; exact lt_le rfl, fun q2 hq2 => ?_⟩
        have s4 := Same.new (o := .tup [.str c, .str z]) hq2
        refine ⟨_, _, _, rfl, rfl, s4 _ _ (s3 _ _ e1), by rw [line_eq]; exact lt_b rfl, ?_⟩
        have e3 := (upd_ne (H := upd (upd H2 q (.tup [.str c, .str z])) q2 (.tup [.str c, .str z])) (o := .lst ([] ++ [.ref q2])) n21).trans (s4 _ _ (s3 _ _ e2))
        refine ⟨_, rfl, .inl ⟨rfl, _, .of e3⟩, _, rfl, _, _, _, rfl, rfl, e3, by rw [line_eq]; exact lt_b rfl, ?_⟩
        refine ⟨_, rfl, ?_, upd_same, fun h => nomatch h⟩
        exact Same.wr (Same.wr (Same.newT (Same.newT s hq) hq2) h1) h2'
    · obtain ⟨u, rfl, s, e2, _⟩ := p
      rw [List.take_length] at e2
      exact ⟨_, rfl, k _ _ s h2' e2⟩
def sp_folded (K : PySem.W.Frag) : Sp := fun vs H Q E => ∃ r a ns, vs = [.str r, .ref a] ∧ SqT K H a ns ∧ One K H ns ∧ ∀ H' p, Same H H' → SqT K H' p ns → Q (.ref p) H'
theorem sc_folded : FnScope ["rule", "notices"] ["rule", "notices"] (defScope s_folded) := ⟨rfl, rfl, rfl, by decide +kernel, rfl, by decide +kernel, by decide +kernel⟩
theorem ok_folded (T : TX w K mg) : FnR P w K mg base CX0 2 (a_folded K) (sp_folded K) := by
  obtain ⟨fd, F⟩ := T.fn 10 rfl rfl
  refine fR F sc_folded (fun _ _ _ _ _ _ us hl => match us, hl with | [_, _], _ => rfl) (fun vs H Q E h => ?_) (fun cdv A outer s H vs Q E hr h => ?_)
  · obtain ⟨r, a, ns, rfl, ha, ho, k⟩ := h
    rfl
  · obtain ⟨r, a, ns, rfl, ha, ho, k⟩ := h
    refine ⟨_, (pss_cons (ps_if (pt_cmpR op_eq (pv 0) pe_str (nomark _))
        (pss_one (ps_ret (pe_callTy call_tuple_of (by rfl) (T.free "tuple") (by decide +kernel) (pa_cons (pe_cf (ok_once T) (hr.mono (by decide)) (by rfl) (T.gf "once") (pa_cons (pv 1) pa_nil)) pa_nil))))
        pss_nil)
      (pss_cons (ps_if (pt_cmpR op_eq (pv 0) pe_str (nomark _))
        (pss_one (ps_ret (pe_callTy call_tuple_of (by rfl) (T.free "tuple") (by decide +kernel) (pa_cons (pe_revL (pe_cf (ok_once T) (hr.mono (by decide)) (by rfl) (T.gf "once") (pa_cons (pe_revT (pv 1)) pa_nil))) pa_nil))))
        pss_nil)
      (pss_one (ps_ret (pe_callTy call_tuple_of (by rfl) (T.free "tuple") (by decide +kernel) (pa_cons (pv 1) pa_nil)))))), ?_⟩
    refine ⟨_, rfl, rfl, _, rfl, ?_⟩
    by_cases h1 : r = "first"
    · subst h1
      rw [decide_eq_true rfl]
      refine ⟨_, rfl, _, _, rfl, ha, ho, fun H1 p1 s1 n1 e1 => ⟨_, _, rfl, .inl ⟨.of e1, fun q hq => ?_⟩⟩⟩
      exact k _ _ (Same.newT s1 hq) (.of upd_same)
    · rw [decide_eq_false (fun e => h1 (by injection e))]
      refine ⟨_, rfl, rfl, _, rfl, ?_⟩
      by_cases h2 : r = "last"
      · subst h2
        rw [decide_eq_true rfl]
        refine ⟨_, rfl, _, _, rfl, ha, fun p hp => ⟨_, _, rfl, .of upd_same, ?_, fun H1 p1 s1 n1 e1 => ⟨_, _, rfl, .of e1, fun q hq => ⟨_, _, rfl, .inl ⟨.of upd_same, fun q2 hq2 => ?_⟩⟩⟩⟩⟩
        · rw [ho.rev]
          exact ho.same (Same.new hp)
        · have s5 := Same.newT (o := .tup ns.reverse.reverse) (Same.newT ((Same.new hp).trans s1) hq) hq2
          have e5 := upd_same (H := upd H1 q (.lst ns.reverse.reverse)) (a := q2) (o := .tup ns.reverse.reverse)
          exact k _ _ s5 (by rw [ho.rev, ho.rev] at e5 ⊢; exact .of e5)
      · rw [decide_eq_false (fun e => h2 (by injection e))]
        exact ⟨_, rfl, _, _, rfl, .inr ⟨ha, k _ _ (fun _ _ e => e) ha⟩⟩
    
end
end CN
end
section
set_option Elab.async false
set_option linter.all false
set_option maxRecDepth 100000
set_option maxHeartbeats 4000000
namespace CN
open PySem PySem.Spec PyProof.Rows L2
local macro_rules | `(tactic| trivial) => `(tactic| exact Led.get (by assumption) 9)
local macro_rules | `(tactic| trivial) => `(tactic| exact Led.get (by assumption) 8)
local macro_rules | `(tactic| trivial) => `(tactic| exact Led.get (by assumption) 7)
local macro_rules | `(tactic| trivial) => `(tactic| exact Led.get (by assumption) 6)
local macro_rules | `(tactic| trivial) => `(tactic| exact Led.get (by assumption) 5)
local macro_rules | `(tactic| trivial) => `(tactic| exact Led.get (by assumption) 4)
local macro_rules | `(tactic| trivial) => `(tactic| exact Led.get (by assumption) 3)
local macro_rules | `(tactic| trivial) => `(tactic| exact Led.get (by assumption) 2)
local macro_rules | `(tactic| trivial) => `(tactic| exact Led.get (by assumption) 1)
local macro_rules | `(tactic| trivial) => `(tactic| exact Led.get (by assumption) 0)
section
variable {P : Program} {w : World} {K : PySem.W.Frag} {mg : Str → Option Value} {base : Heap}
/-! ### the mirror's question: pure parts -/
abbrev I3 : Type := Int × Int × Int
abbrev I2 : Type := Int × Int
def v3 (x : I3) : List V := [.int x.1, .int x.2.1, .int x.2.2]
def v2 (x : I2) : List V := [.int x.1, .int x.2]
def IsStale (K : PySem.W.Frag) (H : Hp) (q m : Addr) : Prop := ∃ dx, H q = some (.ins (He.ga K "Stale") dx [("graph", .ref m)])
theorem IsStale.same {H H' : Hp} {q m : Addr} (s : Same H H') : IsStale K H q m → IsStale K H' q m := fun ⟨dx, e⟩ => ⟨dx, s _ _ e⟩
def lostP (p : I2) : I2 := (p.1, 0)
def copP (sn : Int) (p : I2) : I2 := (if sn = 2 then 0 else 1, p.2)
def recP (p : I2) : I2 := if p.2 = 1 then (1, 0) else p
def toldP (wk : I3) : I3 × I2 := ((if 0 < wk.1 then 2 else 0, wk.2.1, wk.2.2), (0, wk.2.2))
def aloneP (st : Str) (l : Int) (p : I2) : I3 × I2 :=
  if st = "begin" then ((1, 0, l), p) else if st = "listen" then ((0, 0, 1), p) else if st = "unlisten" then ((0, 0, 0), lostP p) else if st = "receive" then ((0, 0, l), recP p) else ((0, 0, l), p)
def withinP (st : Str) (wk : I3) (p : I2) : I3 × I2 :=
  if st = "rollback" then ((0, 0, wk.2.2), p) else if st = "listen" then ((wk.1, 1, wk.2.2), p) else if st = "unlisten" then ((wk.1, 2, wk.2.2), p) else
  if st = "commit" then (if wk.2.1 = 2 then ((0, 0, 0), lostP p) else ((0, 0, if wk.2.1 = 1 then 1 else wk.2.2), p)) else (wk, p)
def behP (st : Str) (wk : I3) (p : I2) : I3 × I2 :=
  if st = "disconnect" then ((0, 0, 0), lostP p) else if st = "read" then (wk, copP wk.1 p) else if wk.1 = 0 then aloneP st wk.2.2 p else withinP st wk p
/-- a pair of a triple and a pair -/
def Pr (K : PySem.W.Frag) (H : Hp) (r : Addr) (z : I3 × I2) : Prop := ∃ a b, SqT K H r [.ref a, .ref b] ∧ SqT K H a (v3 z.1) ∧ SqT K H b (v2 z.2)
theorem Pr.mk3 {H : Hp} {r1 r2 r3 : Addr} {x : I3} {y : I2} (h1 : H r1 = none) (h2 : upd H r1 (.tup (v3 x)) r2 = none) (h3 : upd (upd H r1 (.tup (v3 x))) r2 (.tup (v2 y)) r3 = none) :
    Pr K (upd (upd (upd H r1 (.tup (v3 x))) r2 (.tup (v2 y))) r3 (.tup [.ref r1, .ref r2])) r3 (x, y) :=
  ⟨r1, r2, .of upd_same, .of (Same.new h3 _ _ (Same.new h2 _ _ upd_same)), .of (Same.new h3 _ _ upd_same)⟩
theorem Pr.mk1 {H H1 : Hp} {L : List V} {r1 b r3 : Addr} {x : I3} {y : I2} (h1 : H r1 = none) (hb : SqT K (upd H r1 (.tup L)) b (v2 y)) (h3 : upd H r1 (.tup L) r3 = none) (e : L = v3 x := by rfl) :
    Pr K (upd (upd H r1 (.tup L)) r3 (.tup [.ref r1, .ref b])) r3 (x, y) := by
  subst e
  exact ⟨r1, b, .of upd_same, .of (Same.new h3 _ _ upd_same), Same.tup (Same.new h3) hb⟩
theorem Pr.mk2 {H H1 : Hp} {r1 b r3 : Addr} {x : I3} {y : I2} (h1 : H r1 = none) (s : Same (upd H r1 (.tup (v3 x))) H1) (hb : SqT K H1 b (v2 y)) (h3 : H1 r3 = none) :
    Pr K (upd H1 r3 (.tup [.ref r1, .ref b])) r3 (x, y) := ⟨r1, b, .of upd_same, .of (Same.new h3 _ _ (s _ _ upd_same)), Same.tup (Same.new h3) hb⟩
theorem Pr.mk0 {H : Hp} {a b r3 : Addr} {x : I3} {y : I2} (ha : SqT K H a (v3 x)) (hb : SqT K H b (v2 y)) (h3 : H r3 = none) :
    Pr K (upd H r3 (.tup [.ref a, .ref b])) r3 (x, y) := ⟨a, b, .of upd_same, Same.tup (Same.new h3) ha, Same.tup (Same.new h3) hb⟩
def sp_Stale_lost (K : PySem.W.Frag) : Sp := fun vs H Q E => ∃ q a p, vs = [.ref q, .ref a] ∧ SqT K H a (v2 p) ∧ ∀ H' r, Same H H' → SqT K H' r (v2 (lostP p)) → Q (.ref r) H'
theorem sc_Stale_lost : FnScope ["self", "pair"] ["self", "pair"] (defScope s_Stale_lost) := ⟨rfl, rfl, rfl, by decide +kernel, rfl, by decide +kernel, by decide +kernel⟩
theorem ok_Stale_lost (T : TX w K mg) : FnR P w K mg base CX0 1 (a_Stale_lost K) (sp_Stale_lost K) := by
  obtain ⟨fd, F⟩ := T.fn 30 rfl rfl
  refine fR F sc_Stale_lost (fun _ _ _ _ _ _ us hl => match us, hl with | [_, _], _ => rfl) (fun vs H Q E h => ?_) (fun cdv A outer s H vs Q E hr h => ?_)
  · obtain ⟨q, a, p, rfl, ha, k⟩ := h
    rfl
  · obtain ⟨q, a, p, rfl, ha, k⟩ := h
    refine ⟨_, (pss_one (ps_ret (pe_tup (pa_cons (pe_ix ix_tup (pv 1) pe_int (fun _ _ => rfl)) (pa_cons pe_int pa_nil))))), ?_⟩
    exact ⟨_, rfl, _, _, _, _, rfl, rfl, ha, rfl, ll rfl, fun r hr => k _ _ (Same.new hr) (.of upd_same)⟩
def sp_Stale_copied (K : PySem.W.Frag) : Sp := fun vs H Q E => ∃ q sn a p, vs = [.ref q, .int sn, .ref a] ∧ SqT K H a (v2 p) ∧ ∀ H' r, Same H H' → SqT K H' r (v2 (copP sn p)) → Q (.ref r) H'
theorem sc_Stale_copied : FnScope ["self", "snapshot", "pair"] ["self", "snapshot", "pair"] (defScope s_Stale_copied) := ⟨rfl, rfl, rfl, by decide +kernel, rfl, by decide +kernel, by decide +kernel⟩
theorem ok_Stale_copied (T : TX w K mg) : FnR P w K mg base CX0 1 (a_Stale_copied K) (sp_Stale_copied K) := by
  obtain ⟨fd, F⟩ := T.fn 31 rfl rfl
  refine fR F sc_Stale_copied (fun _ _ _ _ _ _ us hl => match us, hl with | [_, _, _], _ => rfl) (fun vs H Q E h => ?_) (fun cdv A outer s H vs Q E hr h => ?_)
  · obtain ⟨q, sn, a, p, rfl, ha, k⟩ := h
    rfl
  · obtain ⟨q, sn, a, p, rfl, ha, k⟩ := h
    refine ⟨_, (pss_one (ps_ret (pe_tup (pa_cons (pe_ifExp (pt_cmpR op_eq (pv 1) pe_int (nomark _)) pe_int pe_int) (pa_cons (pe_ix ix_tup (pv 2) pe_int (fun _ _ => rfl)) pa_nil))))), ?_⟩
    refine ⟨_, rfl, rfl, _, rfl, ?_⟩
    by_cases h : sn = 2
    · rw [iT h]
      refine ⟨_, rfl, _, _, _, _, rfl, rfl, ha, rfl, ll rfl, fun r hr => k _ _ (Same.new hr) (.of ?_)⟩
      rw [show copP sn p = (0, p.2) by unfold copP; rw [if_pos h]]
      exact upd_same
    · rw [iF h]
      refine ⟨_, rfl, _, _, _, _, rfl, rfl, ha, rfl, ll rfl, fun r hr => k _ _ (Same.new hr) (.of ?_)⟩
      rw [show copP sn p = (1, p.2) by unfold copP; rw [if_neg h]]
      exact upd_same
def sp_Stale_received (K : PySem.W.Frag) : Sp := fun vs H Q E => ∃ q a p, vs = [.ref q, .ref a] ∧ SqT K H a (v2 p) ∧ ∀ H' r, Same H H' → SqT K H' r (v2 (recP p)) → Q (.ref r) H'
theorem sc_Stale_received : FnScope ["self", "pair"] ["self", "pair"] (defScope s_Stale_received) := ⟨rfl, rfl, rfl, by decide +kernel, rfl, by decide +kernel, by decide +kernel⟩
theorem ok_Stale_received (T : TX w K mg) : FnR P w K mg base CX0 1 (a_Stale_received K) (sp_Stale_received K) := by
  obtain ⟨fd, F⟩ := T.fn 32 rfl rfl
  refine fR F sc_Stale_received (fun _ _ _ _ _ _ us hl => match us, hl with | [_, _], _ => rfl) (fun vs H Q E h => ?_) (fun cdv A outer s H vs Q E hr h => ?_)
  · obtain ⟨q, a, p, rfl, ha, k⟩ := h
    rfl
  · obtain ⟨q, a, p, rfl, ha, k⟩ := h
    refine ⟨_, (pss_one (ps_ret (pe_ifExp (pt_cmpR op_eq (pe_ix ix_tup (pv 1) pe_int (fun _ _ => rfl)) pe_int (nomark _)) (pe_tup (pa_cons pe_int (pa_cons pe_int pa_nil))) (pv 1)))), ?_⟩
    refine ⟨_, rfl, _, _, _, _, rfl, rfl, ha, rfl, rfl, _, rfl, ?_⟩
    by_cases h : p.2 = 1
    · rw [iT h]
      refine ⟨ll rfl, fun r hr => k _ _ (Same.new hr) (.of ?_)⟩
      rw [show recP p = (1, 0) by unfold recP; rw [if_pos h]]
      exact upd_same
    · rw [iF h]
      refine ⟨_, rfl, k _ _ (fun _ _ e => e) ?_⟩
      rw [show recP p = p by unfold recP; rw [if_neg h]]
      exact ha
def sp_Stale_told (K : PySem.W.Frag) : Sp := fun vs H Q E => ∃ q a b wk, vs = [.ref q, .ref a, .ref b] ∧ SqT K H a (v3 wk) ∧ ∀ H' r, Same H H' → Pr K H' r (toldP wk) → Q (.ref r) H'
theorem sc_Stale_told : FnScope ["self", "work", "pair", "snapshot", "pending", "listens"] ["self", "work", "pair"] (defScope s_Stale_told) := ⟨rfl, rfl, rfl, by decide +kernel, rfl, by decide +kernel, by decide +kernel⟩
theorem ok_Stale_told (T : TX w K mg) : FnR P w K mg base CX0 1 (a_Stale_told K) (sp_Stale_told K) := by
  obtain ⟨fd, F⟩ := T.fn 33 rfl rfl
  refine fR F sc_Stale_told (fun _ _ _ _ _ _ us hl => match us, hl with | [_, _, _], _ => rfl) (fun vs H Q E h => ?_) (fun cdv A outer s H vs Q E hr h => ?_)
  · obtain ⟨q, a, b, wk, rfl, ha, k⟩ := h
    rfl
  · obtain ⟨q, a, b, wk, rfl, ha, k⟩ := h
    refine ⟨_, (pss_cons (ps_asg (pv 1) (pg_tup rfl (pgs_cons (pgn 3 sc_Stale_told.nd) (pgs_cons (pgn 4 sc_Stale_told.nd) (pgs_cons (pgn 5 sc_Stale_told.nd) pgs_nil)))))
      (pss_one (ps_ret (pe_tup (pa_cons (pe_tup (pa_cons (pe_ifExp (pt_cmpR op_gt (pv 3) pe_int (nomark _)) pe_int pe_int) (pa_cons (pv 4) (pa_cons (pv 5) pa_nil)))) (pa_cons (pe_tup (pa_cons pe_int (pa_cons (pv 5) pa_nil))) pa_nil)))))), ?_⟩
    refine ⟨_, rfl, _, _, rfl, ha, rfl, _, _, rfl, _, _, rfl, _, _, rfl, rfl, ?_⟩
    have e : toldP wk = ((if 0 < wk.1 then 2 else 0, wk.2.1, wk.2.2), (0, wk.2.2)) := rfl
    by_cases h : 0 < wk.1
    · rw [if_pos h] at e
      refine ⟨_, rfl, _, _, rfl, rfl, _, rfl, ?_⟩
      rw [decide_eq_true h]
      refine ⟨_, rfl, _, rfl, ll rfl, fun r1 h1 => ⟨_, rfl, ll rfl, fun r2 h2 => ⟨ll rfl, fun r3 h3 => k _ _ (Same.newT (Same.newT (Same.new h1) h2) h3) ?_⟩⟩⟩
      rw [e]
      exact ⟨r1, r2, .of upd_same, .of (Same.new h3 _ _ (Same.new h2 _ _ upd_same)), .of (Same.new h3 _ _ upd_same)⟩
    · rw [if_neg h] at e
      refine ⟨_, rfl, _, _, rfl, rfl, _, rfl, ?_⟩
      rw [decide_eq_false h]
      refine ⟨_, rfl, _, rfl, ll rfl, fun r1 h1 => ⟨_, rfl, ll rfl, fun r2 h2 => ⟨ll rfl, fun r3 h3 => k _ _ (Same.newT (Same.newT (Same.new h1) h2) h3) ?_⟩⟩⟩
      rw [e]
      exact ⟨r1, r2, .of upd_same, .of (Same.new h3 _ _ (Same.new h2 _ _ upd_same)), .of (Same.new h3 _ _ upd_same)⟩
def sp_Watch_begun (K : PySem.W.Frag) : Sp := fun vs H Q E => ∃ q a, vs = [.ref q, .ref a] ∧ Q (.int 1) H
theorem sc_Watch_begun : FnScope ["self", "pair"] ["self", "pair"] (defScope s_Watch_begun) := ⟨rfl, rfl, rfl, by decide +kernel, rfl, by decide +kernel, by decide +kernel⟩
theorem ok_Watch_begun (T : TX w K mg) : FnR P w K mg base CX0 1 (a_Watch_begun K) (sp_Watch_begun K) := by
  obtain ⟨fd, F⟩ := T.fn 25 rfl rfl
  refine fR F sc_Watch_begun (fun _ _ _ _ _ _ us hl => match us, hl with | [_, _], _ => rfl) (fun vs H Q E h => ?_) (fun cdv A outer s H vs Q E hr h => ?_)
  · obtain ⟨q, a, rfl, k⟩ := h
    rfl
  · obtain ⟨q, a, rfl, k⟩ := h
    refine ⟨_, (pss_one (ps_ret pe_int)), ?_⟩
    exact k
def sp_Watch_alone (K : PySem.W.Frag) : Sp := fun vs H Q E => ∃ q m st l b p, vs = [.ref q, .str st, .int l, .ref b] ∧ IsStale K H q m ∧ SqT K H b (v2 p) ∧ ∀ H' r, Same H H' → Pr K H' r (aloneP st l p) → Q (.ref r) H'
theorem sc_Watch_alone : FnScope ["self", "step", "listens", "pair"] ["self", "step", "listens", "pair"] (defScope s_Watch_alone) := ⟨rfl, rfl, rfl, by decide +kernel, rfl, by decide +kernel, by decide +kernel⟩
theorem ok_Watch_alone (T : TX w K mg) : FnR P w K mg base CX0 2 (a_Watch_alone K) (sp_Watch_alone K) := by
  obtain ⟨fd, F⟩ := T.fn 27 rfl rfl
  refine fR F sc_Watch_alone (fun _ _ _ _ _ _ us hl => match us, hl with | [_, _, _, _], _ => rfl) (fun vs H Q E h => ?_) (fun cdv A outer s H vs Q E hr h => ?_)
  · obtain ⟨q, m, st, l, b, p, rfl, ⟨dx, hq⟩, hb, k⟩ := h
    rfl
  · obtain ⟨q, m, st, l, b, p, rfl, ⟨dx, hq⟩, hb, k⟩ := h
    refine ⟨_, (pss_cons (ps_if (pt_cmpR op_eq (pv 1) pe_str (nomark _))
        (pss_one (ps_ret (pe_tup (pa_cons (pe_tup (pa_cons (pe_me (pv 0) (T.cls "Stale") (T.me "Stale" "begun") (ok_Watch_begun T) (hr.mono (by decide)) (pa_cons (pv 3) pa_nil)) (pa_cons pe_int (pa_cons (pv 2) pa_nil)))) (pa_cons (pv 3) pa_nil)))))
        pss_nil)
      (pss_cons (ps_if (pt_cmpR op_eq (pv 1) pe_str (nomark _))
        (pss_one (ps_ret (pe_tup (pa_cons (pe_tup (pa_cons pe_int (pa_cons pe_int (pa_cons pe_int pa_nil)))) (pa_cons (pv 3) pa_nil)))))
        pss_nil)
      (pss_cons (ps_if (pt_cmpR op_eq (pv 1) pe_str (nomark _))
        (pss_one (ps_ret (pe_tup (pa_cons (pe_tup (pa_cons pe_int (pa_cons pe_int (pa_cons pe_int pa_nil)))) (pa_cons (pe_me (pv 0) (T.cls "Stale") (T.me "Stale" "lost") (ok_Stale_lost T) (hr.mono (by decide)) (pa_cons (pv 3) pa_nil)) pa_nil)))))
        pss_nil)
      (pss_cons (ps_if (pt_cmpR op_eq (pv 1) pe_str (nomark _))
        (pss_one (ps_ret (pe_tup (pa_cons (pe_tup (pa_cons pe_int (pa_cons pe_int (pa_cons (pv 2) pa_nil)))) (pa_cons (pe_me (pv 0) (T.cls "Stale") (T.me "Stale" "received") (ok_Stale_received T) (hr.mono (by decide)) (pa_cons (pv 3) pa_nil)) pa_nil)))))
        pss_nil)
      (pss_one (ps_ret (pe_tup (pa_cons (pe_tup (pa_cons pe_int (pa_cons pe_int (pa_cons (pv 2) pa_nil)))) (pa_cons (pv 3) pa_nil))))))))), ?_⟩
    unfold aloneP at k
    refine ⟨_, rfl, rfl, _, rfl, ?_⟩
    by_cases h1 : st = "begin"
    · rw [sT h1]
      rw [if_pos h1] at k
      refine ⟨_, rfl, _, _, _, rfl, hq, rfl, _, rfl, _, _, rfl, _, rfl, ll rfl, fun r1 n1 => ⟨_, rfl, ll rfl, fun r3 n3 => k _ _ (Same.newT (Same.new n1) n3) (Pr.mk1 (H1 := H) n1 (Same.tup (Same.new n1) hb) n3)⟩⟩
    rw [sF h1]
    rw [if_neg h1] at k
    refine ⟨_, rfl, rfl, _, rfl, ?_⟩
    by_cases h1 : st = "listen"
    · rw [sT h1]
      rw [if_pos h1] at k
      refine ⟨ll rfl, fun r1 n1 => ⟨_, rfl, ll rfl, fun r3 n3 => k _ _ (Same.newT (Same.new n1) n3) (Pr.mk1 (H1 := H) n1 (Same.tup (Same.new n1) hb) n3)⟩⟩
    rw [sF h1]
    rw [if_neg h1] at k
    refine ⟨_, rfl, rfl, _, rfl, ?_⟩
    by_cases h1 : st = "unlisten"
    · rw [sT h1]
      rw [if_pos h1] at k
      refine ⟨ll rfl, fun r1 n1 => ⟨_, rfl, _, _, _, rfl, Same.new n1 _ _ hq, rfl, _, rfl, _, _, _, rfl, Same.tup (Same.new n1) hb, fun H' r s hr => ⟨ll rfl, fun r3 n3 => k _ _ (Same.newT ((Same.new n1).trans s) n3) (Pr.mk2 n1 s hr n3)⟩⟩⟩
    rw [sF h1]
    rw [if_neg h1] at k
    refine ⟨_, rfl, rfl, _, rfl, ?_⟩
    by_cases h1 : st = "receive"
    · rw [sT h1]
      rw [if_pos h1] at k
      refine ⟨_, rfl, ll rfl, fun r1 n1 => ⟨_, rfl, _, _, _, rfl, Same.new n1 _ _ hq, rfl, _, rfl, _, _, _, rfl, Same.tup (Same.new n1) hb, fun H' r s hr => ⟨ll rfl, fun r3 n3 => k _ _ (Same.newT ((Same.new n1).trans s) n3) (Pr.mk2 n1 s hr n3)⟩⟩⟩
    rw [sF h1]
    rw [if_neg h1] at k
    exact ⟨_, rfl, ll rfl, fun r1 n1 => ⟨_, rfl, ll rfl, fun r3 n3 => k _ _ (Same.newT (Same.new n1) n3) (Pr.mk1 (H1 := H) n1 (Same.tup (Same.new n1) hb) n3)⟩⟩
def sp_Watch_within (K : PySem.W.Frag) : Sp := fun vs H Q E => ∃ q m st a wk b p, vs = [.ref q, .str st, .ref a, .ref b] ∧ IsStale K H q m ∧ SqT K H a (v3 wk) ∧ SqT K H b (v2 p) ∧ ∀ H' r, Same H H' → Pr K H' r (withinP st wk p) → Q (.ref r) H'
theorem sc_Watch_within : FnScope ["self", "step", "work", "pair", "snapshot", "pending", "listens"] ["self", "step", "work", "pair"] (defScope s_Watch_within) := ⟨rfl, rfl, rfl, by decide +kernel, rfl, by decide +kernel, by decide +kernel⟩
theorem ok_Watch_within (T : TX w K mg) : FnR P w K mg base CX0 2 (a_Watch_within K) (sp_Watch_within K) := by
  obtain ⟨fd, F⟩ := T.fn 28 rfl rfl
  refine fR F sc_Watch_within (fun _ _ _ _ _ _ us hl => match us, hl with | [_, _, _, _], _ => rfl) (fun vs H Q E h => ?_) (fun cdv A outer s H vs Q E hr h => ?_)
  · obtain ⟨q, m, st, a, wk, b, p, rfl, ⟨dx, hq⟩, ha, hb, k⟩ := h
    rfl
  · obtain ⟨q, m, st, a, wk, b, p, rfl, ⟨dx, hq⟩, ha, hb, k⟩ := h
    refine ⟨_, (pss_cons (ps_asg (pv 2) (pg_tup rfl (pgs_cons (pgn 4 sc_Watch_within.nd) (pgs_cons (pgn 5 sc_Watch_within.nd) (pgs_cons (pgn 6 sc_Watch_within.nd) pgs_nil)))))
      (pss_cons (ps_if (pt_cmpR op_eq (pv 1) pe_str (nomark _))
        (pss_one (ps_ret (pe_tup (pa_cons (pe_tup (pa_cons pe_int (pa_cons pe_int (pa_cons (pv 6) pa_nil)))) (pa_cons (pv 3) pa_nil)))))
        pss_nil)
      (pss_cons (ps_if (pt_cmpR op_eq (pv 1) pe_str (nomark _))
        (pss_one (ps_ret (pe_tup (pa_cons (pe_tup (pa_cons (pv 4) (pa_cons pe_int (pa_cons (pv 6) pa_nil)))) (pa_cons (pv 3) pa_nil)))))
        pss_nil)
      (pss_cons (ps_if (pt_cmpR op_eq (pv 1) pe_str (nomark _))
        (pss_one (ps_ret (pe_tup (pa_cons (pe_tup (pa_cons (pv 4) (pa_cons pe_int (pa_cons (pv 6) pa_nil)))) (pa_cons (pv 3) pa_nil)))))
        pss_nil)
      (pss_cons (ps_if (pt_cmpR op_ne (pv 1) pe_str (nomark _))
        (pss_one (ps_ret (pe_tup (pa_cons (pv 2) (pa_cons (pv 3) pa_nil)))))
        pss_nil)
      (pss_cons (ps_if (pt_cmpR op_eq (pv 5) pe_int (nomark _))
        (pss_one (ps_ret (pe_tup (pa_cons (pe_tup (pa_cons pe_int (pa_cons pe_int (pa_cons pe_int pa_nil)))) (pa_cons (pe_me (pv 0) (T.cls "Stale") (T.me "Stale" "lost") (ok_Stale_lost T) (hr.mono (by decide)) (pa_cons (pv 3) pa_nil)) pa_nil)))))
        pss_nil)
      (pss_one (ps_ret (pe_tup (pa_cons (pe_tup (pa_cons pe_int (pa_cons pe_int (pa_cons (pe_ifExp (pt_cmpR op_eq (pv 5) pe_int (nomark _)) pe_int (pv 6)) pa_nil)))) (pa_cons (pv 3) pa_nil))))))))))), ?_⟩
    unfold withinP at k
    refine ⟨_, rfl, _, _, rfl, ha, rfl, _, _, rfl, _, _, rfl, _, _, rfl, rfl, _, rfl, rfl, _, rfl, ?_⟩
    by_cases h1 : st = "rollback"
    · rw [sT h1]
      rw [if_pos h1] at k
      exact ⟨_, rfl, ll rfl, fun r1 n1 => ⟨_, rfl, ll rfl, fun r3 n3 => k _ _ (Same.newT (Same.new n1) n3) (Pr.mk1 (H1 := H) n1 (Same.tup (Same.new n1) hb) n3)⟩⟩
    rw [sF h1]
    rw [if_neg h1] at k
    refine ⟨_, rfl, rfl, _, rfl, ?_⟩
    by_cases h1 : st = "listen"
    · rw [sT h1]
      rw [if_pos h1] at k
      exact ⟨_, rfl, _, rfl, ll rfl, fun r1 n1 => ⟨_, rfl, ll rfl, fun r3 n3 => k _ _ (Same.newT (Same.new n1) n3) (Pr.mk1 (H1 := H) n1 (Same.tup (Same.new n1) hb) n3)⟩⟩
    rw [sF h1]
    rw [if_neg h1] at k
    refine ⟨_, rfl, rfl, _, rfl, ?_⟩
    by_cases h1 : st = "unlisten"
    · rw [sT h1]
      rw [if_pos h1] at k
      exact ⟨_, rfl, _, rfl, ll rfl, fun r1 n1 => ⟨_, rfl, ll rfl, fun r3 n3 => k _ _ (Same.newT (Same.new n1) n3) (Pr.mk1 (H1 := H) n1 (Same.tup (Same.new n1) hb) n3)⟩⟩
    rw [sF h1]
    rw [if_neg h1] at k
    refine ⟨_, rfl, rfl, _, rfl, ?_⟩
    by_cases h1 : st = "commit"
    · rw [sT h1]
      rw [if_pos h1] at k
      refine ⟨_, rfl, rfl, _, rfl, ?_⟩
      by_cases h2 : wk.2.1 = 2
      · rw [iT h2]
        rw [if_pos h2] at k
        exact ⟨ll rfl, fun r1 n1 => ⟨_, rfl, _, _, _, rfl, Same.new n1 _ _ hq, rfl, _, rfl, _, _, _, rfl, Same.tup (Same.new n1) hb, fun H' r s hr => ⟨ll rfl, fun r3 n3 => k _ _ (Same.newT ((Same.new n1).trans s) n3) (Pr.mk2 n1 s hr n3)⟩⟩⟩
      · rw [iF h2]
        rw [if_neg h2] at k
        refine ⟨_, rfl, rfl, _, rfl, ?_⟩
        by_cases h3 : wk.2.1 = 1
        · rw [iT h3]
          rw [if_pos h3] at k
          exact ⟨ll rfl, fun r1 n1 => ⟨_, rfl, ll rfl, fun r3 n3 => k _ _ (Same.newT (Same.new n1) n3) (Pr.mk1 (H1 := H) n1 (Same.tup (Same.new n1) hb) n3)⟩⟩
        · rw [iF h3]
          rw [if_neg h3] at k
          exact ⟨_, rfl, ll rfl, fun r1 n1 => ⟨_, rfl, ll rfl, fun r3 n3 => k _ _ (Same.newT (Same.new n1) n3) (Pr.mk1 (H1 := H) n1 (Same.tup (Same.new n1) hb) n3)⟩⟩
    rw [sF h1]
    rw [if_neg h1] at k
    exact ⟨_, rfl, _, rfl, ll rfl, fun r3 n3 => k _ _ (Same.new n3) (Pr.mk0 ha hb n3)⟩
def sp_Watch_behind (K : PySem.W.Frag) : Sp := fun vs H Q E => ∃ q m st a wk b p, vs = [.ref q, .str st, .ref a, .ref b] ∧ IsStale K H q m ∧ SqT K H a (v3 wk) ∧ SqT K H b (v2 p) ∧ ∀ H' r, Same H H' → Pr K H' r (behP st wk p) → Q (.ref r) H'
theorem sc_Watch_behind : FnScope ["self", "step", "work", "pair"] ["self", "step", "work", "pair"] (defScope s_Watch_behind) := ⟨rfl, rfl, rfl, by decide +kernel, rfl, by decide +kernel, by decide +kernel⟩
theorem ok_Watch_behind (T : TX w K mg) : FnR P w K mg base CX0 3 (a_Watch_behind K) (sp_Watch_behind K) := by
  obtain ⟨fd, F⟩ := T.fn 26 rfl rfl
  refine fR F sc_Watch_behind (fun _ _ _ _ _ _ us hl => match us, hl with | [_, _, _, _], _ => rfl) (fun vs H Q E h => ?_) (fun cdv A outer s H vs Q E hr h => ?_)
  · obtain ⟨q, m, st, a, wk, b, p, rfl, ⟨dx, hq⟩, ha, hb, k⟩ := h
    rfl
  · obtain ⟨q, m, st, a, wk, b, p, rfl, ⟨dx, hq⟩, ha, hb, k⟩ := h
    refine ⟨_, (pss_cons (ps_if (pt_cmpR op_eq (pv 1) pe_str (nomark _))
        (pss_one (ps_ret (pe_tup (pa_cons (pe_tup (pa_cons pe_int (pa_cons pe_int (pa_cons pe_int pa_nil)))) (pa_cons (pe_me (pv 0) (T.cls "Stale") (T.me "Stale" "lost") (ok_Stale_lost T) (hr.mono (by decide)) (pa_cons (pv 3) pa_nil)) pa_nil)))))
        pss_nil)
      (pss_cons (ps_if (pt_cmpR op_eq (pv 1) (pe_gstr rfl (T.gstr "READ" "read")) (nomark _))
        (pss_one (ps_ret (pe_tup (pa_cons (pv 2) (pa_cons (pe_me (pv 0) (T.cls "Stale") (T.me "Stale" "copied") (ok_Stale_copied T) (hr.mono (by decide)) (pa_cons (pe_ix ix_tup (pv 2) pe_int (fun _ _ => rfl)) (pa_cons (pv 3) pa_nil))) pa_nil)))))
        pss_nil)
      (pss_cons (ps_if (pt_cmpR op_eq (pe_ix ix_tup (pv 2) pe_int (fun _ _ => rfl)) pe_int (nomark _))
        (pss_one (ps_ret (pe_me (pv 0) (T.cls "Stale") (T.me "Stale" "alone") (ok_Watch_alone T) (hr.mono (by decide)) (pa_cons (pv 1) (pa_cons (pe_ix ix_tup (pv 2) pe_int (fun _ _ => rfl)) (pa_cons (pv 3) pa_nil))))))
        pss_nil)
      (pss_one (ps_ret (pe_me (pv 0) (T.cls "Stale") (T.me "Stale" "within") (ok_Watch_within T) (hr.mono (by decide)) (pa_cons (pv 1) (pa_cons (pv 2) (pa_cons (pv 3) pa_nil))))))))), ?_⟩
    unfold behP at k
    refine ⟨_, rfl, rfl, _, rfl, ?_⟩
    by_cases h1 : st = "disconnect"
    · rw [sT h1]
      rw [if_pos h1] at k
      exact ⟨ll rfl, fun r1 n1 => ⟨_, rfl, _, _, _, rfl, Same.new n1 _ _ hq, rfl, _, rfl, _, _, _, rfl, Same.tup (Same.new n1) hb, fun H' r s hr => ⟨ll rfl, fun r3 n3 => k _ _ (Same.newT ((Same.new n1).trans s) n3) (Pr.mk2 n1 s hr n3)⟩⟩⟩
    rw [sF h1]
    rw [if_neg h1] at k
    refine ⟨_, rfl, rfl, _, rfl, ?_⟩
    by_cases h1 : st = "read"
    · rw [sT h1]
      rw [if_pos h1] at k
      exact ⟨_, rfl, _, rfl, _, _, _, rfl, hq, rfl, _, rfl, _, _, _, _, rfl, rfl, ha, rfl, _, rfl, _, _, _, _, rfl, hb, fun H' r s hr => ⟨ll rfl, fun r3 n3 => k _ _ (Same.newT s n3) (Pr.mk0 (Same.tup s ha) hr n3)⟩⟩
    rw [sF h1]
    rw [if_neg h1] at k
    refine ⟨_, rfl, _, _, _, _, rfl, rfl, ha, rfl, rfl, _, rfl, ?_⟩
    by_cases h1 : wk.1 = 0
    · rw [iT h1]
      rw [if_pos h1] at k
      exact ⟨_, rfl, _, _, _, rfl, hq, rfl, _, rfl, _, rfl, _, _, _, _, rfl, rfl, ha, rfl, _, rfl, _, _, _, _, _, _, rfl, ⟨_, hq⟩, hb, k⟩
    · rw [iF h1]
      rw [if_neg h1] at k
      exact ⟨_, rfl, _, _, _, rfl, hq, rfl, _, rfl, _, rfl, _, rfl, _, _, _, _, _, _, _, rfl, ⟨_, hq⟩, ha, hb, k⟩
    
end
end CN
end
section
set_option Elab.async false
set_option linter.all false
set_option maxRecDepth 100000
set_option maxHeartbeats 4000000
namespace CN
open PySem PySem.Spec PyProof.Rows L2
local macro_rules | `(tactic| trivial) => `(tactic| exact Led.get (by assumption) 9)
local macro_rules | `(tactic| trivial) => `(tactic| exact Led.get (by assumption) 8)
local macro_rules | `(tactic| trivial) => `(tactic| exact Led.get (by assumption) 7)
local macro_rules | `(tactic| trivial) => `(tactic| exact Led.get (by assumption) 6)
local macro_rules | `(tactic| trivial) => `(tactic| exact Led.get (by assumption) 5)
local macro_rules | `(tactic| trivial) => `(tactic| exact Led.get (by assumption) 4)
local macro_rules | `(tactic| trivial) => `(tactic| exact Led.get (by assumption) 3)
local macro_rules | `(tactic| trivial) => `(tactic| exact Led.get (by assumption) 2)
local macro_rules | `(tactic| trivial) => `(tactic| exact Led.get (by assumption) 1)
local macro_rules | `(tactic| trivial) => `(tactic| exact Led.get (by assumption) 0)
section
variable {P : Program} {w : World} {K : PySem.W.Frag} {mg : Str → Option Value} {base : Heap}
/-! ### versions -/
structure VS where
  pr : Int
  cp : Int
  li : Bool
  wt : List Int
  wk : Option (Int × Str)
def WkV (K : PySem.W.Frag) (H : Hp) (v : V) : Option (Int × Str) → Prop
  | none => v = .non
  | some (x, z) => ∃ b, v = .ref b ∧ SqT K H b [.int x, .str z]
def VSt (K : PySem.W.Frag) (H : Hp) (a : Addr) (s : VS) : Prop := ∃ b v, SqT K H a [.int s.pr, .int s.cp, .bl s.li, .ref b, v] ∧ SqT K H b (s.wt.map V.int) ∧ WkV K H v s.wk
theorem WkV.same {H H' : Hp} {v : V} (s : Same H H') : ∀ {o : Option (Int × Str)}, WkV K H v o → WkV K H' v o
  | none, h => h
  | some (x, z), ⟨b, e, h⟩ => ⟨b, e, Same.tup s h⟩
theorem VSt.same {H H' : Hp} {a : Addr} {z : VS} (s : Same H H') : VSt K H a z → VSt K H' a z := fun ⟨b, v, h1, h2, h3⟩ => ⟨b, v, Same.tup s h1, Same.tup s h2, h3.same s⟩
theorem VSt.mk {H' : Hp} {L : List V} {r b : Addr} {v : V} {z : VS} (n : H' r = none) (hb : SqT K H' b (z.wt.map V.int)) (hv : WkV K H' v z.wk) (e : L = [.int z.pr, .int z.cp, .bl z.li, .ref b, v] := by rfl) : VSt K (upd H' r (.tup L)) r z := by
  subst e
  exact ⟨b, v, .of upd_same, Same.tup (Same.new n) hb, hv.same (Same.new n)⟩
def startV : VS := ⟨0, -1, false, [], none⟩
def aloneV (st : Str) (s : VS) : VS :=
  if st = "begin" then { s with wk := some (s.pr, "") } else if st = "listen" then { s with li := true, wk := none } else if st = "unlisten" then { s with li := false, wt := [], wk := none } else
  if st = "receive" then (match s.wt.getLast? with
    | some x => { s with cp := x, wt := [], wk := none }
    | none => s) else s
def withinV (st : Str) (x : Int) (y : Str) (s : VS) : VS :=
  if st = "rollback" then { s with wk := none } else if st = "listen" ∨ st = "unlisten" then { s with wk := some (x, st) } else
  if st = "commit" then (if y = "unlisten" then { s with li := false, wt := [], wk := none } else { s with li := s.li || decide (y = "listen"), wk := none }) else s
def afterV (s : VS) (st : Str) : VS :=
  if st = "other" then { s with pr := s.pr + 1, wt := if s.li then s.wt ++ [s.pr + 1] else s.wt } else
  if st = "disconnect" then { s with li := false, wt := [], wk := none } else
  if st = "read" then { s with cp := (match s.wk with
    | none => s.pr
    | some (x, _) => x) } else
  (match s.wk with
    | none => aloneV st s
    | some (x, y) => withinV st x y s)
theorem ints_lay : ∀ l : List Int, PyData.canLayAll0 (l.map PyData.int) = true
  | [] => rfl
  | a :: r => by
    simp only [List.map_cons, PyData.canLayAll0, PyData.canLay0, Bool.true_and]
    exact ints_lay r
theorem ints_depth : ∀ l : List Int, PyData.depthAll (l.map PyData.int) = 0
  | [] => by simp [PyData.depthAll]
  | a :: r => by
    simp only [List.map_cons, PyData.depthAll, PyData.depth]
    rw [ints_depth r]
    rfl
theorem ints_shaped (l : List Int) : SeqAt.shaped (.tuple (l.map PyData.int)) = true := by
  show (PyData.canLay0 (.tuple (l.map PyData.int)) && decide (PyData.depth (.tuple (l.map PyData.int)) ≤ 64)) = true
  rw [Bool.and_eq_true]
  refine ⟨by simp only [PyData.canLay0]; exact ints_lay l, decide_eq_true ?_⟩
  simp only [PyData.depth, ints_depth]
  omega
theorem ints_dp {H : Hp} : ∀ l : List Int, DpAll K H (l.map V.int) (l.map PyData.int)
  | [] => .nil
  | a :: r => .cons (.int a) (ints_dp r)
theorem eqv_nil (l : List Int) : PyData.eqv (.tuple (l.map PyData.int)) (.tuple []) = decide (l = []) := by
  cases l <;> simp [PyData.eqv, PyData.eqvAll]
theorem last_at {α β : Type} {f : α → β} {l : List α} {x : α} (h : l.getLast? = some x) : atI (l.map f) (-1) = some (f x) := by
  obtain ⟨r, rfl⟩ : ∃ r, l = r ++ [x] := by
    have hne : l ≠ [] := fun e => by rw [e] at h; cases h
    refine ⟨l.dropLast, ?_⟩
    rw [List.getLast?_eq_getLast hne] at h
    have := List.dropLast_concat_getLast hne
    rw [Option.some.inj h] at this
    exact this.symm
  rw [List.map_append]
  exact atI_last _ _
theorem drop_at {α : Type} {l : List α} {i : Nat} {x : α} (h : l[i]? = some x) : l.drop i = x :: l.drop (i + 1) := by
  obtain ⟨hi, e⟩ := List.getElem?_eq_some_iff.mp h
  rw [List.drop_eq_getElem_cons hi, e]
def sp__law_start (K : PySem.W.Frag) : Sp := fun vs H Q E => vs = [] ∧ ∀ H' r, Same H H' → VSt K H' r startV → Q (.ref r) H'
theorem sc__law_start : FnScope [] [] (defScope s__law_start) := ⟨rfl, rfl, rfl, by decide +kernel, rfl, by decide +kernel, by decide +kernel⟩
theorem ok__law_start (T : TX w K mg) : FnR P w K mg base CX0 1 (a__law_start K) (sp__law_start K) := by
  obtain ⟨fd, F⟩ := T.fn 69 rfl rfl
  refine fR F sc__law_start (fun _ _ _ _ _ _ us hl => match us, hl with | [], _ => rfl) (fun vs H Q E h => ?_) (fun cdv A outer s H vs Q E hr h => ?_)
  · obtain ⟨rfl, k⟩ := h
    rfl
  · obtain ⟨rfl, k⟩ := h
    refine ⟨_, (pss_one (ps_ret (pe_tup (pa_cons pe_int (pa_cons (pe_un un_neg pe_int) (pa_cons pe_bl (pa_cons (pe_tup pa_nil) (pa_cons pe_non pa_nil)))))))), ?_⟩
    exact ⟨_, rfl, ll rfl, fun b hb => ⟨ll rfl, fun r hr => k _ _ (Same.newT (Same.new hb) hr) (VSt.mk hr (.of upd_same) rfl)⟩⟩
def sp__law_alone (K : PySem.W.Frag) : Sp := fun vs H Q E => ∃ a st s, vs = [.ref a, .str st] ∧ VSt K H a s ∧ s.wt.length < 1000 ∧ ∀ H' r, Same H H' → VSt K H' r (aloneV st s) → Q (.ref r) H'
theorem sc__law_alone : FnScope ["_law_state", "_law_step", "_law_present", "_law_copy", "_law_listens", "_law_waiting", "_law_work"] ["_law_state", "_law_step"] (defScope s__law_alone) := ⟨rfl, rfl, rfl, by decide +kernel, rfl, by decide +kernel, by decide +kernel⟩
theorem ok__law_alone (T : TX w K mg) : FnR P w K mg base CX0 1 (a__law_alone K) (sp__law_alone K) := by
  obtain ⟨fd, F⟩ := T.fn 70 rfl rfl
  refine fR F sc__law_alone (fun _ _ _ _ _ _ us hl => match us, hl with | [_, _], _ => rfl) (fun vs H Q E h => ?_) (fun cdv A outer s H vs Q E hr h => ?_)
  · obtain ⟨a, st, s, rfl, hs, hl, k⟩ := h
    rfl
  · obtain ⟨a, st, s, rfl, hs, hl, k⟩ := h
    refine ⟨_, (pss_cons (ps_asg (pv 0) (pg_tup rfl (pgs_cons (pgn 2 sc__law_alone.nd) (pgs_cons (pgn 3 sc__law_alone.nd) (pgs_cons (pgn 4 sc__law_alone.nd) (pgs_cons (pgn 5 sc__law_alone.nd) (pgs_cons (pgn 6 sc__law_alone.nd) pgs_nil)))))))
      (pss_cons (ps_if (pt_cmpR op_eq (pv 1) pe_str (nomark _))
        (pss_one (ps_ret (pe_tup (pa_cons (pv 2) (pa_cons (pv 3) (pa_cons (pv 4) (pa_cons (pv 5) (pa_cons (pe_tup (pa_cons (pv 2) (pa_cons pe_str pa_nil))) pa_nil))))))))
        pss_nil)
      (pss_cons (ps_if (pt_cmpR op_eq (pv 1) pe_str (nomark _))
        (pss_one (ps_ret (pe_tup (pa_cons (pv 2) (pa_cons (pv 3) (pa_cons pe_bl (pa_cons (pv 5) (pa_cons pe_non pa_nil))))))))
        pss_nil)
      (pss_cons (ps_if (pt_cmpR op_eq (pv 1) pe_str (nomark _))
        (pss_one (ps_ret (pe_tup (pa_cons (pv 2) (pa_cons (pv 3) (pa_cons pe_bl (pa_cons (pe_tup pa_nil) (pa_cons pe_non pa_nil))))))))
        pss_nil)
      (pss_cons (ps_if (PW.pt (pw_and (pt_cmpR op_eq (pv 1) pe_str (nomark _)) (pw_and1 (pt_cmpR (op_neD hr.units) (pv 5) (pe_tup pa_nil) (nomark _)))))
        (pss_one (ps_ret (pe_tup (pa_cons (pv 2) (pa_cons (pe_ix ix_tup (pv 5) (pe_un un_neg pe_int) (fun _ _ => rfl)) (pa_cons (pv 4) (pa_cons (pe_tup pa_nil) (pa_cons pe_non pa_nil))))))))
        pss_nil)
      (pss_one (ps_ret (pv 0)))))))), ?_⟩
    have hs0 := hs
    obtain ⟨b, v, ha, hb, hv⟩ := hs
    unfold aloneV at k
    refine ⟨_, rfl, _, _, rfl, ha, rfl, _, _, rfl, _, _, rfl, _, _, rfl, _, _, rfl, _, _, rfl, rfl, _, rfl, rfl, _, rfl, ?_⟩
    by_cases h1 : st = "begin"
    · rw [sT h1]
      rw [if_pos h1] at k
      exact ⟨_, rfl, _, rfl, _, rfl, _, rfl, _, rfl, ll rfl, fun c hc => ⟨ll rfl, fun r hr => k _ _ (Same.newT (Same.new hc) hr) (VSt.mk hr (Same.tup (Same.new hc) hb) ⟨c, rfl, .of upd_same⟩)⟩⟩
    rw [sF h1]
    rw [if_neg h1] at k
    refine ⟨_, rfl, rfl, _, rfl, ?_⟩
    by_cases h1 : st = "listen"
    · rw [sT h1]
      rw [if_pos h1] at k
      exact ⟨_, rfl, _, rfl, _, rfl, ll rfl, fun r hr => k _ _ (Same.new hr) (VSt.mk hr hb rfl)⟩
    rw [sF h1]
    rw [if_neg h1] at k
    refine ⟨_, rfl, rfl, _, rfl, ?_⟩
    by_cases h1 : st = "unlisten"
    · rw [sT h1]
      rw [if_pos h1] at k
      exact ⟨_, rfl, _, rfl, ll rfl, fun c hc => ⟨ll rfl, fun r hr => k _ _ (Same.newT (Same.new hc) hr) (VSt.mk hr (.of upd_same) rfl)⟩⟩
    rw [sF h1]
    rw [if_neg h1] at k
    refine ⟨_, rfl, rfl, _, rfl, ?_⟩
    by_cases h1 : st = "receive"
    · rw [sT h1]
      rw [if_pos h1] at k
      refine ⟨_, rfl, ll rfl, fun c hc => ⟨.tuple (s.wt.map PyData.int), .tuple [], .tup (Same.tup (Same.new hc) hb) (ints_dp _), .tup (.of upd_same) .nil, ints_shaped _, rfl, _, rfl, ?_⟩⟩
      rw [eqv_nil]
      cases hg : s.wt.getLast? with
      | none =>
        rw [hg] at k
        have e : s.wt = [] := List.getLast?_eq_none_iff.mp hg
        rw [decide_eq_true e]
        exact ⟨_, rfl, k _ _ (Same.new hc) (hs0.same (Same.new hc))⟩
      | some x =>
        rw [hg] at k
        have e : s.wt ≠ [] := fun e => by rw [e] at hg; cases hg
        rw [decide_eq_false e]
        exact ⟨_, rfl, _, rfl, _, rfl, _, _, _, _, rfl, rfl, Same.tup (Same.new hc) hb, last_at hg, _, rfl, ll rfl, fun d hd => ⟨ll rfl, fun r hr => k _ _ (Same.newT (Same.newT (Same.new hc) hd) hr) (VSt.mk hr (.of upd_same) rfl)⟩⟩
    · rw [sF h1]
      rw [if_neg h1] at k
      exact ⟨_, rfl, k _ _ (fun _ _ e => e) hs0⟩
def sp__law_within (K : PySem.W.Frag) : Sp := fun vs H Q E => ∃ a st s x y, vs = [.ref a, .str st] ∧ VSt K H a s ∧ s.wk = some (x, y) ∧ ∀ H' r, Same H H' → VSt K H' r (withinV st x y s) → Q (.ref r) H'
theorem sc__law_within : FnScope ["_law_state", "_law_step", "_law_present", "_law_copy", "_law_listens", "_law_waiting", "_law_work"] ["_law_state", "_law_step"] (defScope s__law_within) := ⟨rfl, rfl, rfl, by decide +kernel, rfl, by decide +kernel, by decide +kernel⟩
theorem ok__law_within (T : TX w K mg) : FnR P w K mg base CX0 1 (a__law_within K) (sp__law_within K) := by
  obtain ⟨fd, F⟩ := T.fn 71 rfl rfl
  refine fR F sc__law_within (fun _ _ _ _ _ _ us hl => match us, hl with | [_, _], _ => rfl) (fun vs H Q E h => ?_) (fun cdv A outer s H vs Q E hr h => ?_)
  · obtain ⟨a, st, s, x, y, rfl, hs, hw, k⟩ := h
    rfl
  · obtain ⟨a, st, s, x, y, rfl, hs, hw, k⟩ := h
    refine ⟨_, (pss_cons (ps_asg (pv 0) (pg_tup rfl (pgs_cons (pgn 2 sc__law_within.nd) (pgs_cons (pgn 3 sc__law_within.nd) (pgs_cons (pgn 4 sc__law_within.nd) (pgs_cons (pgn 5 sc__law_within.nd) (pgs_cons (pgn 6 sc__law_within.nd) pgs_nil)))))))
      (pss_cons (ps_if (pt_cmpR op_eq (pv 1) pe_str (nomark _))
        (pss_one (ps_ret (pe_tup (pa_cons (pv 2) (pa_cons (pv 3) (pa_cons (pv 4) (pa_cons (pv 5) (pa_cons pe_non pa_nil))))))))
        pss_nil)
      (pss_cons (ps_if (pt_cmpR op_in_seq (pv 1) (pe_tup (pa_cons pe_str (pa_cons pe_str pa_nil))) (by rfl))
        (pss_one (ps_ret (pe_tup (pa_cons (pv 2) (pa_cons (pv 3) (pa_cons (pv 4) (pa_cons (pv 5) (pa_cons (pe_tup (pa_cons (pe_ix ix_tup (pv 6) pe_int (fun _ _ => rfl)) (pa_cons (pv 1) pa_nil))) pa_nil))))))))
        pss_nil)
      (pss_cons (ps_if (pt_cmpR op_ne (pv 1) pe_str (nomark _))
        (pss_one (ps_ret (pv 0)))
        pss_nil)
      (pss_cons (ps_if (pt_cmpR op_eq (pe_ix ix_tup (pv 6) pe_int (fun _ _ => rfl)) pe_str (nomark _))
        (pss_one (ps_ret (pe_tup (pa_cons (pv 2) (pa_cons (pv 3) (pa_cons pe_bl (pa_cons (pe_tup pa_nil) (pa_cons pe_non pa_nil))))))))
        pss_nil)
      (pss_one (ps_ret (pe_tup (pa_cons (pv 2) (pa_cons (pv 3) (pa_cons (pe_or (pv 4) (pe_one (pe_cmpR op_eq (pe_ix ix_tup (pv 6) pe_int (fun _ _ => rfl)) pe_str (nomark _)))) (pa_cons (pv 5) (pa_cons pe_non pa_nil))))))))))))), ?_⟩
    have hs0 := hs
    obtain ⟨b, v, ha, hb, hv⟩ := hs
    rw [hw] at hv
    obtain ⟨d, rfl, hd⟩ := hv
    unfold withinV at k
    refine ⟨_, rfl, _, _, rfl, ha, rfl, _, _, rfl, _, _, rfl, _, _, rfl, _, _, rfl, _, _, rfl, rfl, _, rfl, rfl, _, rfl, ?_⟩
    by_cases h1 : st = "rollback"
    · rw [sT h1]
      rw [if_pos h1] at k
      exact ⟨_, rfl, _, rfl, _, rfl, _, rfl, ll rfl, fun r hr => k _ _ (Same.new hr) (VSt.mk hr hb rfl)⟩
    rw [sF h1]
    rw [if_neg h1] at k
    refine ⟨_, rfl, ll rfl, fun t ht => ⟨_, _, rfl, .inr (.of upd_same), rfl, rfl, _, rfl, ?_⟩⟩
    have ein : inV (.str st) [.str "listen", .str "unlisten"] = decide (st = "listen" ∨ st = "unlisten") := by
      show inV (.str st) ((["listen", "unlisten"] : List Str).map V.str) = _
      rw [inV_strs]
      rw [Bool.eq_iff_iff, List.contains_iff_mem, decide_eq_true_iff]
      simp
    rw [ein]
    have hb := Same.tup (Same.new (o := .tup [.str "listen", .str "unlisten"]) ht) hb
    have hd := Same.tup (Same.new (o := .tup [.str "listen", .str "unlisten"]) ht) hd
    have hs0 := hs0.same (Same.new (o := .tup [.str "listen", .str "unlisten"]) ht)
    have k := fun H' r z => k H' r ((Same.new (o := .tup [.str "listen", .str "unlisten"]) ht).trans z)
    by_cases h1 : st = "listen" ∨ st = "unlisten"
    · rw [decide_eq_true h1]
      rw [if_pos h1] at k
      exact ⟨_, rfl, _, rfl, _, rfl, _, rfl, _, rfl, _, _, _, _, rfl, rfl, hd, rfl, _, rfl, ll rfl, fun c hc => ⟨ll rfl, fun r hr => k _ _ (Same.newT (Same.new hc) hr) (VSt.mk hr (Same.tup (Same.new hc) hb) ⟨c, rfl, .of upd_same⟩)⟩⟩
    rw [decide_eq_false h1]
    rw [if_neg h1] at k
    refine ⟨_, rfl, rfl, _, rfl, ?_⟩
    by_cases h1 : st = "commit"
    · rw [sT h1]
      rw [if_pos h1] at k
      refine ⟨_, rfl, _, _, _, _, rfl, rfl, hd, rfl, rfl, _, rfl, ?_⟩
      by_cases h2 : y = "unlisten"
      · rw [sT h2]
        rw [if_pos h2] at k
        exact ⟨_, rfl, _, rfl, ll rfl, fun c hc => ⟨ll rfl, fun r hr => k _ _ (Same.newT (Same.new hc) hr) (VSt.mk hr (.of upd_same) rfl)⟩⟩
      · rw [sF h2]
        rw [if_neg h2] at k
        refine ⟨_, rfl, _, rfl, _, rfl, _, rfl, ?_⟩
        cases hli : s.li with
        | true =>
          rw [hli] at k
          exact ⟨_, rfl, ll rfl, fun r hr => k _ _ (Same.new hr) (VSt.mk hr hb rfl)⟩
        | false =>
          rw [hli] at k
          refine ⟨_, rfl, _, _, _, _, rfl, rfl, hd, rfl, rfl, _, rfl, ll rfl, fun r hr => k _ _ (Same.new hr) (VSt.mk hr hb rfl ?_)⟩
          by_cases h3 : y = "listen"
          · rw [sT h3, decide_eq_true h3]
            rfl
          · rw [sF h3, decide_eq_false h3]
            rfl
    · rw [sF h1]
      rw [if_neg h1] at k
      exact ⟨_, rfl, k _ _ (fun _ _ e => e) hs0⟩
def sp__law_after (K : PySem.W.Frag) : Sp := fun vs H Q E => ∃ a st s, vs = [.ref a, .str st] ∧ VSt K H a s ∧ s.wt.length < 1000 ∧ ∀ H' r, Same H H' → VSt K H' r (afterV s st) → Q (.ref r) H'
theorem sc__law_after : FnScope ["_law_state", "_law_step", "_law_present", "_law_copy", "_law_listens", "_law_waiting", "_law_work"] ["_law_state", "_law_step"] (defScope s__law_after) := ⟨rfl, rfl, rfl, by decide +kernel, rfl, by decide +kernel, by decide +kernel⟩
theorem ok__law_after (T : TX w K mg) : FnR P w K mg base CX0 2 (a__law_after K) (sp__law_after K) := by
  obtain ⟨fd, F⟩ := T.fn 72 rfl rfl
  refine fR F sc__law_after (fun _ _ _ _ _ _ us hl => match us, hl with | [_, _], _ => rfl) (fun vs H Q E h => ?_) (fun cdv A outer s H vs Q E hr h => ?_)
  · obtain ⟨a, st, s, rfl, hs, hl, k⟩ := h
    rfl
  · obtain ⟨a, st, s, rfl, hs, hl, k⟩ := h
    refine ⟨_, (pss_cons (ps_asg (pv 0) (pg_tup rfl (pgs_cons (pgn 2 sc__law_after.nd) (pgs_cons (pgn 3 sc__law_after.nd) (pgs_cons (pgn 4 sc__law_after.nd) (pgs_cons (pgn 5 sc__law_after.nd) (pgs_cons (pgn 6 sc__law_after.nd) pgs_nil)))))))
      (pss_cons (ps_if (pt_cmpR op_eq (pv 1) pe_str (nomark _))
        (pss_one (ps_ret (pe_tup (pa_cons (pe_op op_add (pv 2) pe_int) (pa_cons (pv 3) (pa_cons (pv 4) (pa_cons (pe_ifExp (pt_val (pv 4)) (pe_op op_catA (pv 5) (pe_tup (pa_cons (pe_op op_add (pv 2) pe_int) pa_nil))) (pv 5)) (pa_cons (pv 6) pa_nil))))))))
        pss_nil)
      (pss_cons (ps_if (pt_cmpR op_eq (pv 1) pe_str (nomark _))
        (pss_one (ps_ret (pe_tup (pa_cons (pv 2) (pa_cons (pv 3) (pa_cons pe_bl (pa_cons (pe_tup pa_nil) (pa_cons pe_non pa_nil))))))))
        pss_nil)
      (pss_cons (ps_if (pt_cmpR op_eq (pv 1) pe_str (nomark _))
        (pss_one (ps_ret (pe_tup (pa_cons (pv 2) (pa_cons (pe_ifExp (pt_cmpR op_isN (pv 6) pe_non (nomark _)) (pv 2) (pe_ix ix_tup (pv 6) pe_int (fun _ _ => rfl))) (pa_cons (pv 4) (pa_cons (pv 5) (pa_cons (pv 6) pa_nil))))))))
        pss_nil)
      (pss_one (ps_ret (pe_ifExp (pt_cmpR op_isN (pv 6) pe_non (nomark _)) (pe_cf (ok__law_alone T) (hr.mono (by decide)) (by rfl) (T.gf "_law_alone") (pa_cons (pv 0) (pa_cons (pv 1) pa_nil))) (pe_cf (ok__law_within T) (hr.mono (by decide)) (by rfl) (T.gf "_law_within") (pa_cons (pv 0) (pa_cons (pv 1) pa_nil)))))))))), ?_⟩
    have hs0 := hs
    obtain ⟨b, v, ha, hb, hv⟩ := hs
    unfold afterV at k
    refine ⟨_, rfl, _, _, rfl, ha, rfl, _, _, rfl, _, _, rfl, _, _, rfl, _, _, rfl, _, _, rfl, rfl, _, rfl, rfl, _, rfl, ?_⟩
    by_cases h1 : st = "other"
    · rw [sT h1]
      rw [if_pos h1] at k
      refine ⟨_, rfl, _, _, rfl, rfl, _, rfl, _, rfl, _, rfl, _, rfl, ?_⟩
      cases hli : s.li with
      | true =>
        rw [hli, if_pos rfl] at k
        refine ⟨_, rfl, _, rfl, _, _, rfl, rfl, ll rfl, fun c hc => ⟨_, _, _, _, rfl, rfl, Same.tup (Same.new hc) hb, .of upd_same, ?_, fun e => ?_, fun _ e => (nomatch e), fun hne _ d hd => ?_⟩⟩
        · rw [List.length_map, line_eq]
          show s.wt.length + 1 ≤ _
          omega
        · have e : s.wt = [] := List.map_eq_nil_iff.mp e
          rw [e] at k
          exact ⟨_, rfl, ll rfl, fun r hr => k _ _ (Same.newT (Same.new hc) hr) (VSt.mk hr (.of upd_same) (hv.same (Same.new hc)))⟩
        · refine ⟨_, rfl, ll rfl, fun r hr => k _ _ (Same.newT (Same.newT (Same.new hc) hd) hr) (VSt.mk hr (.of ?_) (hv.same (Same.newT (Same.new hc) hd)))⟩
          rw [List.map_append]
          exact upd_same
      | false =>
        rw [hli, if_neg (by decide)] at k
        exact ⟨_, rfl, _, rfl, ll rfl, fun r hr => k _ _ (Same.new hr) (VSt.mk hr hb hv)⟩
    rw [sF h1]
    rw [if_neg h1] at k
    refine ⟨_, rfl, rfl, _, rfl, ?_⟩
    by_cases h1 : st = "disconnect"
    · rw [sT h1]
      rw [if_pos h1] at k
      exact ⟨_, rfl, _, rfl, ll rfl, fun c hc => ⟨ll rfl, fun r hr => k _ _ (Same.newT (Same.new hc) hr) (VSt.mk hr (.of upd_same) rfl)⟩⟩
    rw [sF h1]
    rw [if_neg h1] at k
    refine ⟨_, rfl, rfl, _, rfl, ?_⟩
    by_cases h1 : st = "read"
    · rw [sT h1]
      rw [if_pos h1] at k
      refine ⟨_, rfl, _, rfl, rfl, _, rfl, ?_⟩
      cases hw : s.wk with
      | none =>
        rw [hw] at k hv
        obtain rfl : v = .non := hv
        exact ⟨_, rfl, _, rfl, _, rfl, _, rfl, ll rfl, fun r hr => k _ _ (Same.new hr) (VSt.mk (v := .non) hr hb rfl)⟩
      | some q =>
        obtain ⟨x, y⟩ := q
        rw [hw] at k hv
        obtain ⟨d, rfl, hd⟩ := hv
        exact ⟨_, rfl, _, _, _, _, rfl, rfl, hd, rfl, _, rfl, _, rfl, _, rfl, ll rfl, fun r hr => k _ _ (Same.new hr) (VSt.mk (v := .ref d) hr hb ⟨d, rfl, hd⟩)⟩
    rw [sF h1]
    rw [if_neg h1] at k
    refine ⟨_, rfl, rfl, _, rfl, ?_⟩
    cases hw : s.wk with
    | none =>
      rw [hw] at k hv
      obtain rfl : v = .non := hv
      exact ⟨_, rfl, _, rfl, _, _, _, rfl, hs0, hl, k⟩
    | some q =>
      obtain ⟨x, y⟩ := q
      rw [hw] at k hv
      obtain ⟨d, rfl, hd⟩ := hv
      exact ⟨_, rfl, _, rfl, _, _, _, _, _, rfl, hs0, hw, k⟩
/-! ### nodes, runs -/
abbrev Nds : Type := List (List (Str × Nat))
def EdgeT (K : PySem.W.Frag) (H : Hp) (v : V) (e : Str × Nat) : Prop := ∃ a, v = .ref a ∧ SqT K H a [.str e.1, .int (e.2 : Nat)]
def NodeT (K : PySem.W.Frag) (H : Hp) (v : V) (es : List (Str × Nat)) : Prop := ∃ a xs, v = .ref a ∧ SqT K H a xs ∧ Paired (EdgeT K H) xs es
def NodesT (K : PySem.W.Frag) (H : Hp) (a : Addr) (nds : Nds) : Prop := ∃ xs, SqT K H a xs ∧ Paired (NodeT K H) xs nds
theorem EdgeT.same {H H' : Hp} (s : Same H H') {v : V} {e : Str × Nat} : EdgeT K H v e → EdgeT K H' v e := fun ⟨a, h1, h2⟩ => ⟨a, h1, Same.tup s h2⟩
theorem NodeT.same {H H' : Hp} (s : Same H H') {v : V} {es : List (Str × Nat)} : NodeT K H v es → NodeT K H' v es := fun ⟨a, xs, h1, h2, h3⟩ => ⟨a, xs, h1, Same.tup s h2, Paired.mapP h3 fun _ _ => EdgeT.same s⟩
theorem NodesT.same {H H' : Hp} (s : Same H H') {a : Addr} {nds : Nds} : NodesT K H a nds → NodesT K H' a nds := fun ⟨xs, h1, h2⟩ => ⟨xs, Same.tup s h1, Paired.mapP h2 fun _ _ => NodeT.same s⟩
theorem Paired.at {α β : Type} {F : α → β → Prop} : ∀ {xs : List α} {ys : List β} {i : Nat} {y : β}, Paired F xs ys → ys[i]? = some y → ∃ x, xs[i]? = some x ∧ F x y
  | _, _, _, _, .nil, e => by simp at e
  | _, _, 0, _, .cons r _, e => by
    simp at e
    subst e
    exact ⟨_, rfl, r⟩
  | _, _, i + 1, y, .cons _ t, e => by
    obtain ⟨x, h1, h2⟩ := Paired.at (i := i) (y := y) t (by simpa using e)
    exact ⟨x, by simpa using h1, h2⟩
def edgeAt (nds : Nds) (n : Nat) (l : Int) : Option (Str × Nat) := if l = -1 then some ("other", n) else if l < 0 then none else nds[n]?.bind fun es => es[l.toNat]?
def replay (nds : Nds) : Nat → VS → List Int → Option (Nat × VS)
  | n, s, [] => some (n, s)
  | n, s, l :: r => (edgeAt nds n l).bind fun e => replay nds e.2 (afterV s e.1) r
theorem afterV_wt (s : VS) (st : Str) : (afterV s st).wt.length ≤ s.wt.length + 1 := by
  unfold afterV aloneV withinV
  repeat' split
  all_goals first | omega | (simp only [List.length_append, List.length_singleton]; omega) | (simp only [List.length_nil]; omega) | skip
def sp__law_replayed (K : PySem.W.Frag) : Sp := fun vs H Q E => ∃ a nds b run n s, vs = [.ref a, .ref b] ∧ NodesT K H a nds ∧ SqT K H b (run.map V.int) ∧ run.length < 500 ∧ replay nds 0 startV run = some (n, s) ∧ ∀ H' r c, Same H H' → SqT K H' r [.int (n : Nat), .ref c] → VSt K H' c s → Q (.ref r) H'
theorem sc__law_replayed : FnScope ["_law_nodes", "_law_run", "_law_node", "_law_state", "_law_label", "_law_step", "_law_there"] ["_law_nodes", "_law_run"] (defScope s__law_replayed) := ⟨rfl, rfl, rfl, by decide +kernel, rfl, by decide +kernel, by decide +kernel⟩
theorem ok__law_replayed (T : TX w K mg) : FnR P w K mg base CX0 3 (a__law_replayed K) (sp__law_replayed K) := by
  obtain ⟨fd, F⟩ := T.fn 73 rfl rfl
  refine fR F sc__law_replayed (fun _ _ _ _ _ _ us hl => match us, hl with | [_, _], _ => rfl) (fun vs H Q E h => ?_) (fun cdv A outer s H vs Q E hr h => ?_)
  · obtain ⟨a, nds, b, run, n, s, rfl, ha, hb, hl, he, k⟩ := h
    rfl
  · obtain ⟨a, nds, b, run, n, s, rfl, ha, hb, hl, he, k⟩ := h
    refine ⟨_, (pss_cons (ps_par (i := 2) (j := 3) rfl sc__law_replayed.nd rfl rfl (by decide) rfl rfl (pa_cons pe_int (pa_cons (pe_cf0 (ok__law_start T) (hr.mono (by decide)) (by rfl) (T.gf "_law_start")) pa_nil)) rfl)
      (pss_cons (ps_for PassesOwn.never rfl (pi_tup (pv 1)) (pgn 4 sc__law_replayed.nd)
        (pss_cons (ps_asg (pe_ifExp (pt_cmpR op_eq (pv 4) (pe_un un_neg pe_int) (nomark _)) (pe_tup (pa_cons pe_str (pa_cons (pv 2) pa_nil))) (pe_ix ix_tup (pe_ix ix_tup (pv 0) (pv 2) (fun _ _ => rfl)) (pv 4) (fun _ _ => rfl))) (pg_tup rfl (pgs_cons (pgn 5 sc__law_replayed.nd) (pgs_cons (pgn 6 sc__law_replayed.nd) pgs_nil))))
        (pss_one (ps_par (i := 2) (j := 3) rfl sc__law_replayed.nd rfl rfl (by decide) rfl rfl (pa_cons (pv 6) (pa_cons (pe_cf (ok__law_after T) (hr.mono (by decide)) (by rfl) (T.gf "_law_after") (pa_cons (pv 3) (pa_cons (pv 5) pa_nil))) pa_nil)) rfl))))
      (pss_one (ps_ret (pe_tup (pa_cons (pv 2) (pa_cons (pv 3) pa_nil))))))), ?_⟩
    refine ⟨rfl, fun H1 c s1 hc => ⟨_, _, rfl, _, rfl, b, rfl, ⟨_, Same.tup s1 hb⟩, for_it (walk_tup (xs := run.map V.int)) (fun i σ H' => ∃ n' s' c' u1 u2 u3, σ = [some (.ref a), some (.ref b), some (.int ((n' : Nat) : Int)), some (.ref c'), u1, u2, u3] ∧ Same H H' ∧ VSt K H' c' s' ∧ s'.wt.length ≤ i ∧ replay nds n' s' (run.drop i) = some (n, s)) ?_ ?_ ?_ ?_⟩⟩
    · exact ⟨0, startV, c, _, _, _, rfl, s1, hc, Nat.zero_le _, by rw [List.drop_zero]; exact he⟩
    · rintro i σ H' _ ⟨n', s', c', u1, u2, u3, rfl, h1, h2, h3⟩
      exact Same.tup h1 hb
    · rintro i x σ H1 H2 hi ⟨n', s', c', u1, u2, u3, rfl, h1, h2, hw, h3⟩ ⟨rfl, hx⟩
      obtain ⟨l, hx', rfl⟩ := get_map hx
      rw [drop_at hx'] at h3
      unfold replay at h3
      obtain ⟨e, e1, e2⟩ := Option.bind_eq_some_iff.mp h3
      have hi' : i < run.length := by simpa using hi
      have hw2 := afterV_wt s' e.1
      unfold edgeAt at e1
      by_cases h : l = -1
      · rw [if_pos h] at e1
        cases e1
        refine ⟨_, rfl, _, rfl, rfl, true, congrArg V.bl (iT h), ?_⟩
        refine ⟨_, rfl, ll rfl, fun c1 n1 => ⟨_, _, rfl, .of upd_same, rfl, _, _, rfl, _, _, rfl, rfl, _, rfl, _, rfl, _, rfl, _, _, _, rfl, h2.same (Same.new n1), by omega, fun H3 r3 s3 q3 => ⟨_, _, rfl, ?_⟩⟩⟩
        exact ⟨_, _, _, _, _, _, rfl, (h1.trans (Same.new n1)).trans s3, q3, Nat.le_trans hw2 (Nat.succ_le_succ hw), e2⟩
      · rw [if_neg h] at e1
        by_cases h0 : l < 0
        · rw [if_pos h0] at e1
          cases e1
        rw [if_neg h0] at e1
        obtain ⟨es, g1, g2⟩ := Option.bind_eq_some_iff.mp e1
        obtain ⟨xs, ha1, ha2⟩ := ha.same h1
        obtain ⟨x, k1, nd, ys, rfl, k2, k3⟩ := Paired.at ha2 g1
        obtain ⟨y, k4, ed, rfl, k5⟩ := Paired.at k3 g2
        refine ⟨_, rfl, _, rfl, rfl, false, congrArg V.bl (iF h), ?_⟩
        have el : ((l.toNat : Nat) : Int) = l := by omega
        refine ⟨_, rfl, _, rfl, _, _, _, _, rfl, rfl, ha1, atI_nat k1, _, rfl, _, _, _, _, rfl, rfl, k2, by rw [← el]; exact atI_nat k4, _, _, rfl, k5, rfl, _, _, rfl, _, _, rfl, rfl, _, rfl, _, rfl, _, rfl, _, _, _, rfl, h2, by omega, fun H3 r3 s3 q3 => ⟨_, _, rfl, ?_⟩⟩
        exact ⟨_, _, _, _, _, _, rfl, h1.trans s3, q3, by omega, e2⟩
    · rintro σ H' ⟨n', s', c', u1, u2, u3, rfl, h1, h2, hw, h3⟩
      rw [List.length_map, List.drop_length] at h3
      cases h3
      exact ⟨_, rfl, _, rfl, ll rfl, fun r hr => k _ _ _ (Same.newT h1 hr) (.of upd_same) (h2.same (Same.new hr))⟩
    
end
end CN
end
section
set_option Elab.async false
set_option linter.all false
set_option maxRecDepth 100000
set_option maxHeartbeats 4000000
namespace CN
open PySem PySem.Spec PyProof.Rows L2
local macro_rules | `(tactic| trivial) => `(tactic| exact Led.get (by assumption) 9)
local macro_rules | `(tactic| trivial) => `(tactic| exact Led.get (by assumption) 8)
local macro_rules | `(tactic| trivial) => `(tactic| exact Led.get (by assumption) 7)
local macro_rules | `(tactic| trivial) => `(tactic| exact Led.get (by assumption) 6)
local macro_rules | `(tactic| trivial) => `(tactic| exact Led.get (by assumption) 5)
local macro_rules | `(tactic| trivial) => `(tactic| exact Led.get (by assumption) 4)
local macro_rules | `(tactic| trivial) => `(tactic| exact Led.get (by assumption) 3)
local macro_rules | `(tactic| trivial) => `(tactic| exact Led.get (by assumption) 2)
local macro_rules | `(tactic| trivial) => `(tactic| exact Led.get (by assumption) 1)
local macro_rules | `(tactic| trivial) => `(tactic| exact Led.get (by assumption) 0)
section
variable {P : Program} {w : World} {K : PySem.W.Frag} {mg : Str → Option Value} {base : Heap}
/-! ### the pen -/
def Pen (H : Hp) (p : Addr) : Prop := ∃ a b c, H p = some (.lst [.int a, .int b, .int c]) ∧ 0 ≤ b ∧ b < 4294967296
/-- the pen at p was turned -/
structure Dw (p : Addr) (H H' : Hp) : Prop where
  o : Pen H p
  n : Pen H' p
  f : Fr [p] H H'
section
variable {p : Addr} {H H1 H' : Hp} {a : Addr} {xs : List V}
theorem Pen.same (s : Same H H') : Pen H p → Pen H' p := fun ⟨a, b, c, e, h⟩ => ⟨a, b, c, s _ _ e, h⟩
theorem Dw.refl (o : Pen H p) : Dw p H H := ⟨o, o, Fr.refl _⟩
theorem Dw.same (o : Pen H p) (s : Same H H') : Dw p H H' := ⟨o, o.same s, Fr.same s⟩
theorem Dw.trans (d : Dw p H H1) (e : Dw p H1 H') : Dw p H H' := ⟨d.o, e.n, d.f.trans e.f⟩
theorem Dw.thn (d : Dw p H H1) (s : Same H1 H') : Dw p H H' := d.trans (.same d.n s)
theorem Dw.keep (d : Dw p H H') {u : HO} (e : H a = some u) (n : ∀ xs, u ≠ .lst xs) : H' a = some u := by
  obtain ⟨x, y, z, q, _⟩ := d.o
  refine d.f _ _ e fun m => ?_
  have m : a = p := by simpa using m
  rw [m, q] at e
  exact n _ (Option.some.inj e).symm
theorem Dw.tup (d : Dw p H H') (h : SqT K H a xs) : SqT K H' a xs := by
  rcases h with (h | ⟨o, h⟩) | h
  · exact .inl (.inl (d.keep h fun _ z => nomatch z))
  · exact .inl (.inr ⟨o, d.keep h fun _ z => nomatch z⟩)
  · exact .inr h
theorem Dw.ne (d : Dw p H H') {u : HO} (hn : H a = none) : a ≠ p := by
  obtain ⟨x, y, z, q, _⟩ := d.o
  rintro rfl
  rw [hn] at q
  cases q
end
theorem none_of {H H' : Hp} {a : Addr} (s : Same H H') (h : H' a = none) : H a = none := by
  cases e : H a with
  | none => rfl
  | some o => rw [s _ _ e] at h; cases h
theorem EdgeT.dw {p : Addr} {H H' : Hp} (d : Dw p H H') {v : V} {e : Str × Nat} : EdgeT K H v e → EdgeT K H' v e := fun ⟨a, h1, h2⟩ => ⟨a, h1, d.tup h2⟩
theorem NodeT.dw {p : Addr} {H H' : Hp} (d : Dw p H H') {v : V} {es : List (Str × Nat)} : NodeT K H v es → NodeT K H' v es := fun ⟨a, xs, h1, h2, h3⟩ => ⟨a, xs, h1, d.tup h2, Paired.mapP h3 fun _ _ => EdgeT.dw d⟩
theorem NodesT.dw {p : Addr} {H H' : Hp} (d : Dw p H H') {a : Addr} {nds : Nds} : NodesT K H a nds → NodesT K H' a nds := fun ⟨xs, h1, h2⟩ => ⟨xs, d.tup h1, Paired.mapP h2 fun _ _ => NodeT.dw d⟩
theorem by_ok {m : Int} (h0 : 0 < m) (h1 : m < 4294967296) (i : Int) : CDivW i m := wide_div (b := 32) h0 (by omega) (by decide) (by decide)
theorem mul_r {i j : Int} (h0 : 0 ≤ j) (h1 : j < 4294967296) : CMul i j := .inr ⟨by omega, by omega⟩
theorem mul_l {i j : Int} (h0 : 0 ≤ i) (h1 : i < 4294967296) : CMul i j := .inl ⟨by omega, by omega⟩
theorem rest_eq (n m : Int) : n - n / m * m = n % m := by
  rw [Int.emod_def, Int.mul_comm]
def sp__law_rest (K : PySem.W.Frag) : Sp := fun vs H Q E => ∃ n m, vs = [.int n, .int m] ∧ 0 < m ∧ m < 4294967296 ∧ Q (.int (n % m)) H
theorem sc__law_rest : FnScope ["_law_number", "_law_by"] ["_law_number", "_law_by"] (defScope s__law_rest) := ⟨rfl, rfl, rfl, by decide +kernel, rfl, by decide +kernel, by decide +kernel⟩
theorem ok__law_rest (T : TX w K mg) : FnR P w K mg base CX0 1 (a__law_rest K) (sp__law_rest K) := by
  obtain ⟨fd, F⟩ := T.fn 75 rfl rfl
  refine fR F sc__law_rest (fun _ _ _ _ _ _ us hl => match us, hl with | [_, _], _ => rfl) (fun vs H Q E h => ?_) (fun cdv A outer s H vs Q E hr h => ?_)
  · obtain ⟨n, m, rfl, h0, h1, k⟩ := h
    rfl
  · obtain ⟨n, m, rfl, h0, h1, k⟩ := h
    refine ⟨_, (pss_one (ps_ret (pe_op op_sub (pv 0) (pe_op op_mul (pe_op op_fdivW (pv 0) (pv 1)) (pv 1))))), ?_⟩
    rw [← rest_eq] at k
    exact ⟨_, rfl, _, rfl, _, rfl, _, _, rfl, rfl, by_ok h0 h1 _, _, rfl, _, _, rfl, rfl, mul_r (by omega) h1, _, _, rfl, rfl, k⟩
def sp__law_pen (K : PySem.W.Frag) : Sp := fun vs H Q E => ∃ n, vs = [.int n] ∧ ∀ H' p, Same H H' → H p = none → Pen H' p → Q (.ref p) H'
theorem sc__law_pen : FnScope ["_law_cell"] ["_law_cell"] (defScope s__law_pen) := ⟨rfl, rfl, rfl, by decide +kernel, rfl, by decide +kernel, by decide +kernel⟩
theorem ok__law_pen (T : TX w K mg) : FnR P w K mg base CX0 2 (a__law_pen K) (sp__law_pen K) := by
  obtain ⟨fd, F⟩ := T.fn 76 rfl rfl
  refine fR F sc__law_pen (fun _ _ _ _ _ _ us hl => match us, hl with | [_], _ => rfl) (fun vs H Q E h => ?_) (fun cdv A outer s H vs Q E hr h => ?_)
  · obtain ⟨n, rfl, k⟩ := h
    rfl
  · obtain ⟨n, rfl, k⟩ := h
    refine ⟨_, (pss_one (ps_ret (pe_lst (pa_cons (pe_callB (call_max2 rfl) (by rfl) (T.free "max") (by decide +kernel) (pa_cons pe_int (pa_cons (pe_op op_sub (pv 0) (pe_op op_pow pe_int pe_int)) pa_nil))) (pa_cons (pe_op op_add (pe_cf (ok__law_rest T) (hr.mono (by decide)) (by rfl) (T.gf "_law_rest") (pa_cons (pv 0) (pa_cons pe_int pa_nil))) pe_int) (pa_cons pe_int pa_nil)))))), ?_⟩
    refine ⟨_, rfl, _, _, rfl, rfl, ⟨by decide, by decide, by decide⟩, _, _, rfl, rfl, _, _, rfl, _, rfl, _, _, rfl, by decide, by decide, _, _, rfl, rfl, ll rfl, fun p hp => k _ _ (Same.new hp) hp ⟨_, _, _, upd_same, ?_, ?_⟩⟩
    · have := Int.emod_nonneg n (b := 2147483629) (by decide)
      show 0 ≤ n % 2147483629 + 1
      omega
    · have := Int.emod_lt_of_pos n (b := 2147483629) (by decide)
      show n % 2147483629 + 1 < 4294967296
      omega
def sp__law_cell_at (K : PySem.W.Frag) : Sp := fun vs H Q E => ∃ a ns j, vs = [.ref a, .int j] ∧ SqL K H a (List.map V.int ns) ∧ 0 ≤ j ∧ ∀ n, Q (.int n) H
theorem sc__law_cell_at : FnScope ["_law_script", "_law_k"] ["_law_script", "_law_k"] (defScope s__law_cell_at) := ⟨rfl, rfl, rfl, by decide +kernel, rfl, by decide +kernel, by decide +kernel⟩
theorem ok__law_cell_at (T : TX w K mg) : FnR P w K mg base CX0 1 (a__law_cell_at K) (sp__law_cell_at K) := by
  obtain ⟨fd, F⟩ := T.fn 77 rfl rfl
  refine fR F sc__law_cell_at (fun _ _ _ _ _ _ us hl => match us, hl with | [_, _], _ => rfl) (fun vs H Q E h => ?_) (fun cdv A outer s H vs Q E hr h => ?_)
  · obtain ⟨a, ns, j, rfl, ha, hj, k⟩ := h
    rfl
  · obtain ⟨a, ns, j, rfl, ha, hj, k⟩ := h
    refine ⟨_, (pss_cons (ps_if (pt_cmpR op_lt (pv 1) (pe_callB call_len_seq (by rfl) (T.free "len") (by decide +kernel) (pa_cons (pv 0) pa_nil)) (nomark _))
        (pss_one (ps_ret (pe_ix ix_list (pv 0) (pv 1) (fun _ _ => rfl))))
        pss_nil)
      (pss_one (ps_ret pe_int))), ?_⟩
    refine ⟨_, rfl, _, rfl, _, _, rfl, .inl ha, _, _, rfl, rfl, _, rfl, ?_⟩
    by_cases h : j < ns.length
    · rw [decide_eq_true (by rw [List.length_map]; exact h)]
      have h2 : j.toNat < ns.length := by omega
      refine ⟨_, rfl, _, rfl, _, _, _, .int ns[j.toNat], rfl, rfl, ha, ?_, k _⟩
      have e := atI_nat (xs := ns.map V.int) (j := j.toNat) (v := .int ns[j.toNat]) (by simp [h2])
      rwa [show ((j.toNat : Nat) : Int) = j by omega] at e
    · rw [decide_eq_false (by rw [List.length_map]; exact h)]
      exact k 0
def sp__law_pens (K : PySem.W.Frag) : Sp := fun vs H Q E => ∃ a ns, vs = [.ref a, .int 3] ∧ SqL K H a (List.map V.int ns) ∧ ns.length < 1000 ∧ ∀ H' p ps, Same H H' → H p = none → H' p = some (.lst (List.map V.ref ps)) → ps.length ≤ 3 → (∀ q ∈ ps, H q = none ∧ q ≠ p ∧ Pen H' q) → ps.Nodup → Q (.ref p) H'
theorem sc__law_pens : FnScope ["_law_script", "_law_many", "_law_k"] ["_law_script", "_law_many"] (defScope s__law_pens) := ⟨rfl, rfl, rfl, by decide +kernel, rfl, by decide +kernel, by decide +kernel⟩
theorem ok__law_pens (T : TX w K mg) : FnR P w K mg base CX0 3 (a__law_pens K) (sp__law_pens K) := by
  obtain ⟨fd, F⟩ := T.fn 78 rfl rfl
  refine fR F sc__law_pens (fun _ _ _ _ _ _ us hl => match us, hl with | [_, _], _ => rfl) (fun vs H Q E h => ?_) (fun cdv A outer s H vs Q E hr h => ?_)
  · obtain ⟨a, ns, rfl, ha, hl, k⟩ := h
    rfl
  · obtain ⟨a, ns, rfl, ha, hl, k⟩ := h
    refine ⟨_, (pss_one (ps_ret (pe_lc (own := [("_law_k", 2)]) rfl sc__law_pens.nd (pi_range1 rfl (T.free "range") (pa_cons (pe_callB (call_max2 rfl) (by rfl) (T.free "max") (by decide +kernel) (pa_cons pe_int (pa_cons (pe_callB (call_min2 rfl) (by rfl) (T.free "min") (by decide +kernel) (pa_cons (pe_callB call_len_seq (by rfl) (T.free "len") (by decide +kernel) (pa_cons (pv 0) pa_nil)) (pa_cons (pv 1) pa_nil))) pa_nil))) pa_nil)) (blkN sc__law_pens) (fun _ _ _ _ _ => pgn 2 sc__law_pens.nd) (fun _ _ _ _ _ => pts_nil) (fun _ _ _ _ _ => pe_cf (ok__law_pen T) (hr.mono (by decide)) (by rfl) (T.gf "_law_pen") (pa_cons (pe_cf (ok__law_cell_at T) (hr.mono (by decide)) (by rfl) (T.gf "_law_cell_at") (pa_cons (pv 0) (pa_cons (pv 2) pa_nil))) pa_nil))))), ?_⟩
    refine ⟨_, rfl, _, _, rfl, .inl ha, _, rfl, _, _, rfl, _, _, rfl, _, rfl, ?_, ?_, fun A hA => lc_it walk_range (fun i H' => ∃ qs, H' A = some (.lst (List.map V.ref qs)) ∧ qs.length = i ∧ Same H H' ∧ (∀ q ∈ qs, H q = none ∧ q ≠ A ∧ Pen H' q) ∧ qs.Nodup) ⟨[], upd_same, rfl, Same.new hA, fun q hq => (nomatch hq), List.nodup_nil⟩ (fun _ _ _ _ => True.intro) ?_ ?_⟩
    · rw [List.length_map]
      repeat' split
      all_goals omega
    · rw [List.length_map]
      repeat' split
      all_goals omega
    · rintro i x H1 H2 hi ⟨qs, e1, e2, e3, e4, e5⟩ ⟨rfl, rfl⟩
      have hi3 : i < 3 := by
        rw [List.length_map] at hi
        revert hi
        repeat' split
        all_goals omega
      refine ⟨rfl, _, rfl, _, rfl, _, _, _, rfl, Same.lst e3 ha, by omega, fun n => ⟨_, rfl, fun H3 p s3 n3 h3 => ⟨_, s3 _ _ e1, by rw [List.length_map, e2]; exact Nat.lt_trans hi3 (ls rfl), qs ++ [p], by rw [upd_same, List.map_append]; rfl, by rw [List.length_append, e2]; rfl, Same.wr (e3.trans s3) hA, ?_, ?_⟩⟩⟩
      · intro q hq
        rcases List.mem_append.mp hq with hq | hq
        · obtain ⟨h1, h2, h4⟩ := e4 q hq
          refine ⟨h1, h2, ?_⟩
          obtain ⟨x, y, z, h5, h6⟩ := h4.same s3
          exact ⟨x, y, z, by rw [upd_ne h2]; exact h5, h6⟩
        · obtain rfl : q = p := by simpa using hq
          have np : q ≠ A := fun e => by rw [e, e1] at n3; cases n3
          refine ⟨none_of e3 n3, np, ?_⟩
          obtain ⟨x, y, z, h5, h6⟩ := h3
          exact ⟨x, y, z, by rw [upd_ne np]; exact h5, h6⟩
      · refine List.nodup_append.mpr ⟨e5, by simp, fun q hq q2 hq2 => ?_⟩
        obtain rfl : q2 = p := by simpa using hq2
        rintro rfl
        obtain ⟨x, y, z, h5, _⟩ := (e4 q hq).2.2
        rw [h5] at n3
        cases n3
    · rintro H1 ⟨qs, e1, e2, e3, e4, e5⟩
      refine k _ _ qs e3 hA e1 ?_ e4 e5
      rw [e2, List.length_map]
      repeat' split
      all_goals omega
    
end
end CN
end
section
set_option Elab.async false
set_option linter.all false
set_option maxRecDepth 100000
set_option maxHeartbeats 4000000
namespace CN
open PySem PySem.Spec PyProof.Rows L2
local macro_rules | `(tactic| trivial) => `(tactic| exact Led.get (by assumption) 9)
local macro_rules | `(tactic| trivial) => `(tactic| exact Led.get (by assumption) 8)
local macro_rules | `(tactic| trivial) => `(tactic| exact Led.get (by assumption) 7)
local macro_rules | `(tactic| trivial) => `(tactic| exact Led.get (by assumption) 6)
local macro_rules | `(tactic| trivial) => `(tactic| exact Led.get (by assumption) 5)
local macro_rules | `(tactic| trivial) => `(tactic| exact Led.get (by assumption) 4)
local macro_rules | `(tactic| trivial) => `(tactic| exact Led.get (by assumption) 3)
local macro_rules | `(tactic| trivial) => `(tactic| exact Led.get (by assumption) 2)
local macro_rules | `(tactic| trivial) => `(tactic| exact Led.get (by assumption) 1)
local macro_rules | `(tactic| trivial) => `(tactic| exact Led.get (by assumption) 0)
section
variable {P : Program} {w : World} {K : PySem.W.Frag} {mg : Str → Option Value} {base : Heap}
/-! ### draws -/
theorem Dw.lst {p a : Addr} {H H' : Hp} {xs : List V} (d : Dw p H H') (n : a ≠ p) (h : SqL K H a xs) : SqL K H' a xs := by
  have m : a ∉ [p] := by simpa using n
  rcases h with (h | ⟨o, h⟩) | h
  · exact .inl (.inl (d.f _ _ h m))
  · exact .inl (.inr ⟨o, d.f _ _ h m⟩)
  · exact .inr h
theorem Pen.ne {p a : Addr} {H : Hp} (h : Pen H p) (n : H a = none) : a ≠ p := by
  obtain ⟨x, y, z, e, _⟩ := h
  rintro rfl
  rw [n] at e
  cases e
theorem Dw.no {p a : Addr} {H H' : Hp} (d : Dw p H H') (h : H' a = none) : H a = none := by
  cases e : H a with
  | none => rfl
  | some o =>
    have q := d.f _ _ e (by simpa using d.n.ne h)
    rw [h] at q
    cases q
theorem Paired.drop {α β : Type} {F : α → β → Prop} : ∀ {xs : List α} {ys : List β} (n : Nat), Paired F xs ys → Paired F (xs.drop n) (ys.drop n)
  | _, _, 0, h => h
  | _, _, _ + 1, .nil => .nil
  | _, _, n + 1, .cons _ t => Paired.drop n t
theorem Paired.take {α β : Type} {F : α → β → Prop} : ∀ {xs : List α} {ys : List β} (n : Nat), Paired F xs ys → Paired F (xs.take n) (ys.take n)
  | _, _, 0, _ => .nil
  | _, _, _ + 1, .nil => .nil
  | _, _, n + 1, .cons r t => .cons r (Paired.take n t)
theorem Fr.wr {fp : List Addr} {a : Addr} {o : HO} {H H' : Hp} (f : Fr fp H H') (h : H a = none) : Fr fp H (L2.upd H' a o) := fun b u e m => by
  rw [upd_ne (ne_of_none e h)]
  exact f b u e m
theorem Dw.wr {p a : Addr} {o : HO} {H H' : Hp} (d : Dw p H H') (h : H a = none) : Dw p H (upd H' a o) := by
  refine ⟨d.o, ?_, Fr.wr d.f h⟩
  obtain ⟨x, y, z, e, q⟩ := d.n
  exact ⟨x, y, z, by rw [upd_ne (Ne.symm (d.o.ne h))]; exact e, q⟩
def Tk (K : PySem.W.Frag) (H H' : Hp) : Prop := ∀ a xs, SqT K H a xs → SqT K H' a xs
theorem Dw.tk {p : Addr} {H H' : Hp} (d : Dw p H H') : Tk K H H' := fun _ _ h => d.tup h
theorem Tk.upd {q : Addr} {ys : List V} {o : HO} {H : Hp} (h : H q = some (.lst ys)) : Tk K H (L2.upd H q o) := by
  intro a xs h1
  rcases h1 with (h1 | ⟨o2, h1⟩) | h1
  · exact .inl (.inl (by rw [upd_ne (ne_of h1 h fun z => nomatch z)]; exact h1))
  · exact .inl (.inr ⟨o2, by rw [upd_ne (ne_of h1 h fun z => nomatch z)]; exact h1⟩)
  · exact .inr h1
theorem EdgeT.tk {H H' : Hp} (d : Tk K H H') {v : V} {e : Str × Nat} : EdgeT K H v e → EdgeT K H' v e := fun ⟨a, h1, h2⟩ => ⟨a, h1, d _ _ h2⟩
theorem NodeT.tk {H H' : Hp} (d : Tk K H H') {v : V} {es : List (Str × Nat)} : NodeT K H v es → NodeT K H' v es := fun ⟨a, xs, h1, h2, h3⟩ => ⟨a, xs, h1, d _ _ h2, Paired.mapP h3 fun _ _ => EdgeT.tk d⟩
def sp__law_draw (K : PySem.W.Frag) : Sp := fun vs H Q E => ∃ p m, vs = [.ref p, .int m] ∧ Pen H p ∧ 0 < m ∧ m < 4294967296 ∧ ∀ H' r, Dw p H H' → 0 ≤ r → r < m → Q (.int r) H'
theorem sc__law_draw : FnScope ["_law_pen_here", "_law_many", "_law_found", "_law_mixed"] ["_law_pen_here", "_law_many"] (defScope s__law_draw) := ⟨rfl, rfl, rfl, by decide +kernel, rfl, by decide +kernel, by decide +kernel⟩
theorem ok__law_draw (T : TX w K mg) : FnR P w K mg base CX0 2 (a__law_draw K) (sp__law_draw K) := by
  obtain ⟨fd, F⟩ := T.fn 79 rfl rfl
  refine fR F sc__law_draw (fun _ _ _ _ _ _ us hl => match us, hl with | [_, _], _ => rfl) (fun vs H Q E h => ?_) (fun cdv A outer s H vs Q E hr h => ?_)
  · obtain ⟨p, m, rfl, hp, h0, h1, k⟩ := h
    rfl
  · obtain ⟨p, m, rfl, hp, h0, h1, k⟩ := h
    refine ⟨_, (pss_cons (ps_if (pt_cmpR op_gt (pe_ix ix_list (pv 0) pe_int (fun _ _ => rfl)) pe_int (nomark _))
        (pss_cons (pst 2 sc__law_draw.nd (pe_cf (ok__law_rest T) (hr.mono (by decide)) (by rfl) (T.gf "_law_rest") (pa_cons (pe_ix ix_list (pv 0) pe_int (fun _ _ => rfl)) (pa_cons (pv 1) pa_nil))))
        (pss_cons (ps_asg (pe_op op_fdivW (pe_ix ix_list (pv 0) pe_int (fun _ _ => rfl)) (pv 1)) (pg_sub (pv 0) pe_int set_list))
        (pss_one (ps_ret (pv 2)))))
        pss_nil)
      (pss_cons (ps_asg (pe_op op_add (pe_ix ix_list (pv 0) pe_int (fun _ _ => rfl)) pe_int) (pg_sub (pv 0) pe_int set_list))
      (pss_cons (ps_asg (pe_cf (ok__law_rest T) (hr.mono (by decide)) (by rfl) (T.gf "_law_rest") (pa_cons (pe_op op_add (pe_op op_add (pe_op op_mul (pe_ix ix_list (pv 0) pe_int (fun _ _ => rfl)) pe_int) (pe_op op_mul pe_int (pe_ix ix_list (pv 0) pe_int (fun _ _ => rfl)))) pe_int) (pa_cons pe_int pa_nil))) (pg_sub (pv 0) pe_int set_list))
      (pss_cons (pst 3 sc__law_draw.nd (pe_cf (ok__law_rest T) (hr.mono (by decide)) (by rfl) (T.gf "_law_rest") (pa_cons (pe_op op_add (pe_op op_add (pe_op op_mul (pe_ix ix_list (pv 0) pe_int (fun _ _ => rfl)) (pe_ix ix_list (pv 0) pe_int (fun _ _ => rfl))) (pe_op op_mul pe_int (pe_ix ix_list (pv 0) pe_int (fun _ _ => rfl)))) pe_int) (pa_cons pe_int pa_nil))))
      (pss_cons (pst 3 sc__law_draw.nd (pe_cf (ok__law_rest T) (hr.mono (by decide)) (by rfl) (T.gf "_law_rest") (pa_cons (pe_op op_add (pe_op op_mul (pv 3) (pv 3)) (pe_op op_mul pe_int (pv 3))) (pa_cons pe_int pa_nil))))
      (pss_one (ps_ret (pe_cf (ok__law_rest T) (hr.mono (by decide)) (by rfl) (T.gf "_law_rest") (pa_cons (pe_op op_fdivW (pv 3) pe_int) (pa_cons (pv 1) pa_nil)))))))))), ?_⟩
    have hp0 := hp
    obtain ⟨a, b, c, e, hb0, hb1⟩ := hp
    refine ⟨_, rfl, _, _, _, _, rfl, rfl, .of e, rfl, _, _, rfl, rfl, _, rfl, ?_⟩
    by_cases ha : 0 < a
    · rw [decide_eq_true ha]
      refine ⟨_, rfl, _, _, _, _, rfl, rfl, .of e, rfl, _, rfl, _, _, rfl, h0, h1, _, rfl, _, _, _, _, rfl, rfl, .of e, rfl, _, rfl, _, _, rfl, rfl, by_ok h0 h1 _, _, rfl, _, _, _, _, rfl, rfl, e, rfl, _, rfl, ?_⟩
      exact k _ _ ⟨hp0, ⟨_, _, _, upd_same, hb0, hb1⟩, Fr.upd (.head _)⟩ (Int.emod_nonneg _ (by omega)) (Int.emod_lt_of_pos _ h0)
    · rw [decide_eq_false ha]
      refine ⟨_, rfl, _, _, _, _, rfl, rfl, .of e, rfl, _, _, rfl, rfl, _, rfl, _, _, _, _, rfl, rfl, e, rfl, ?_⟩
      have f1 : Fr [p] H (upd H p (.lst ([.int a, .int b, .int c].set 2 (.int (c + 1))))) := Fr.upd (.head _)
      have e1 : upd H p (.lst ([.int a, .int b, .int c].set 2 (.int (c + 1)))) p = some (.lst [.int a, .int b, .int (c + 1)]) := upd_same
      refine ⟨_, rfl, _, _, _, _, rfl, rfl, .of e1, rfl, _, _, rfl, rfl, mul_r (by decide) (by decide), ?_⟩
      refine ⟨_, rfl, _, _, _, _, rfl, rfl, .of e1, rfl, _, _, rfl, rfl, mul_l (by decide) (by decide), _, _, rfl, rfl, _, _, rfl, rfl, _, _, rfl, by decide, by decide, _, rfl, _, _, _, _, rfl, rfl, e1, rfl, ?_⟩
      have hb2 := Int.emod_nonneg (b * 48271 + 1009 * (c + 1) + 7) (b := 2147483647) (by decide)
      have hb3 := Int.emod_lt_of_pos (b * 48271 + 1009 * (c + 1) + 7) (b := 2147483647) (by decide)
      have e2 : ∀ b2 : Int, upd (upd H p (.lst ([.int a, .int b, .int c].set 2 (.int (c + 1))))) p (.lst ([.int a, .int b, .int (c + 1)].set 1 (.int b2))) p = some (.lst [.int a, .int b2, .int (c + 1)]) := fun _ => upd_same
      refine ⟨_, rfl, _, _, _, _, rfl, rfl, .of (e2 _), rfl, _, rfl, _, _, _, _, rfl, rfl, .of (e2 _), rfl, _, _, rfl, rfl, mul_r hb2 (by omega), _, rfl, _, _, _, _, rfl, rfl, .of (e2 _), rfl, _, _, rfl, rfl, mul_l (by decide) (by decide), _, _, rfl, rfl, _, _, rfl, rfl, _, _, rfl, by decide, by decide, ?_⟩
      refine ⟨_, rfl, _, rfl, _, _, rfl, rfl, mul_r (Int.emod_nonneg _ (by decide)) (Int.lt_trans (Int.emod_lt_of_pos _ (by decide)) (by decide)), _, rfl, _, _, rfl, rfl, mul_l (by decide) (by decide), _, _, rfl, rfl, _, _, rfl, by decide, by decide, ?_⟩
      refine ⟨_, rfl, _, _, rfl, rfl, by_ok (by decide) (by decide) _, _, rfl, _, _, rfl, h0, h1, ?_⟩
      exact k _ _ ⟨hp0, ⟨_, _, _, e2 _, hb2, by omega⟩, f1.trans (Fr.upd (.head _))⟩ (Int.emod_nonneg _ (by omega)) (Int.emod_lt_of_pos _ h0)
def sp__law_pick (K : PySem.W.Frag) : Sp := fun vs H Q E => ∃ p a xs, vs = [.ref p, .ref a] ∧ Pen H p ∧ SqL K H a xs ∧ a ≠ p ∧ 0 < xs.length ∧ xs.length < 1000 ∧ ∀ H' x, Dw p H H' → x ∈ xs → Q x H'
theorem sc__law_pick : FnScope ["_law_pen_here", "_law_some"] ["_law_pen_here", "_law_some"] (defScope s__law_pick) := ⟨rfl, rfl, rfl, by decide +kernel, rfl, by decide +kernel, by decide +kernel⟩
theorem ok__law_pick (T : TX w K mg) : FnR P w K mg base CX0 3 (a__law_pick K) (sp__law_pick K) := by
  obtain ⟨fd, F⟩ := T.fn 80 rfl rfl
  refine fR F sc__law_pick (fun _ _ _ _ _ _ us hl => match us, hl with | [_, _], _ => rfl) (fun vs H Q E h => ?_) (fun cdv A outer s H vs Q E hr h => ?_)
  · obtain ⟨p, a, xs, rfl, hp, ha, hn, h0, h1, k⟩ := h
    rfl
  · obtain ⟨p, a, xs, rfl, hp, ha, hn, h0, h1, k⟩ := h
    refine ⟨_, (pss_one (ps_ret (pe_ix ix_list (pv 1) (pe_cf (ok__law_draw T) (hr.mono (by decide)) (by rfl) (T.gf "_law_draw") (pa_cons (pv 0) (pa_cons (pe_callB call_len_seq (by rfl) (T.free "len") (by decide +kernel) (pa_cons (pv 1) pa_nil)) pa_nil))) (fun _ _ => rfl)))), ?_⟩
    refine ⟨_, rfl, _, rfl, _, rfl, _, _, rfl, .inl ha, _, _, rfl, hp, by omega, by omega, fun H' r d r0 r1 => ?_⟩
    have h2 : r.toNat < xs.length := by omega
    have e := atI_nat (xs := xs) (j := r.toNat) (v := xs[r.toNat]) (by simp [h2])
    refine ⟨_, _, _, xs[r.toNat], rfl, rfl, d.lst hn ha, by rwa [show ((r.toNat : Nat) : Int) = r by omega] at e, k _ _ d (List.getElem_mem h2)⟩
def sp__law_mirror_step (K : PySem.W.Frag) : Sp := fun vs H Q E => ∃ p, vs = [.ref p] ∧ Pen H p ∧ ∀ H' z, Dw p H H' → z ∈ lSTEPS → Q (.str z) H'
theorem sc__law_mirror_step : FnScope ["_law_pen_here", "_law_some"] ["_law_pen_here"] (defScope s__law_mirror_step) := ⟨rfl, rfl, rfl, by decide +kernel, rfl, by decide +kernel, by decide +kernel⟩
theorem ok__law_mirror_step (T : TX w K mg) : FnR P w K mg base CX0 4 (a__law_mirror_step K) (sp__law_mirror_step K) := by
  obtain ⟨fd, F⟩ := T.fn 81 rfl rfl
  refine fR F sc__law_mirror_step (fun _ _ _ _ _ _ us hl => match us, hl with | [_], _ => rfl) (fun vs H Q E h => ?_) (fun cdv A outer s H vs Q E hr h => ?_)
  · obtain ⟨p, rfl, hp, k⟩ := h
    rfl
  · obtain ⟨p, rfl, hp, k⟩ := h
    refine ⟨_, (pss_cons (pst 1 sc__law_mirror_step.nd (pe_lst (pa_cons pe_str (pa_cons pe_str (pa_cons pe_str (pa_cons pe_str (pa_cons pe_str (pa_cons pe_str (pa_cons pe_str (pa_cons pe_str pa_nil))))))))))
      (pss_one (ps_ret (pe_cf (ok__law_pick T) (hr.mono (by decide)) (by rfl) (T.gf "_law_pick") (pa_cons (pv 0) (pa_cons (pe_op op_cat (pv 1) (pe_lst (pa_cons pe_str (pa_cons pe_str (pa_cons pe_str (pa_cons pe_str (pa_cons pe_str (pa_cons pe_str (pa_cons pe_str pa_nil))))))))) pa_nil)))))), ?_⟩
    refine ⟨ll rfl, fun l1 n1 => ⟨_, rfl, _, rfl, ll rfl, fun l2 n2 => ?_⟩⟩
    have e1 := Same.new (o := .lst ([.str "listen", .str "read", .str "read", .str "receive", .str "commit", .str "begin", .str "listen"] : List V)) n2 _ _ (upd_same (H := H) (a := l1) (o := .lst ([.str "begin", .str "commit", .str "rollback", .str "listen", .str "unlisten", .str "read", .str "receive", .str "disconnect"] : List V)))
    refine ⟨_, _, _, _, rfl, rfl, e1, upd_same, ll rfl, fun l3 n3 => ?_⟩
    have s3 := Same.newT (o := .lst (([.str "begin", .str "commit", .str "rollback", .str "listen", .str "unlisten", .str "read", .str "receive", .str "disconnect"] : List V) ++ [.str "listen", .str "read", .str "read", .str "receive", .str "commit", .str "begin", .str "listen"])) (Same.newT (Same.new n1) n2) n3
    have hp' := hp.same s3
    refine ⟨_, _, _, rfl, hp', .of upd_same, hp.ne (none_of (Same.newT (Same.new n1) n2) n3), by decide, lt_b rfl, fun H' x d hx => ?_⟩
    obtain ⟨z, hz, rfl⟩ := List.mem_map.mp (show x ∈ List.map V.str (["begin", "commit", "rollback", "listen", "unlisten", "read", "receive", "disconnect", "listen", "read", "read", "receive", "commit", "begin", "listen"] : List Str) from hx)
    have hs : ∀ z ∈ (["begin", "commit", "rollback", "listen", "unlisten", "read", "receive", "disconnect", "listen", "read", "read", "receive", "commit", "begin", "listen"] : List Str), z ∈ lSTEPS := by decide +kernel
    exact k _ _ ((Dw.same hp s3).trans d) (hs z hz)
def sp__law_rule (K : PySem.W.Frag) : Sp := fun vs H Q E => ∃ p, vs = [.ref p] ∧ Pen H p ∧ ∀ H' z, Dw p H H' → z ∈ lRULES → Q (.str z) H'
theorem sc__law_rule : FnScope ["_law_pen_here"] ["_law_pen_here"] (defScope s__law_rule) := ⟨rfl, rfl, rfl, by decide +kernel, rfl, by decide +kernel, by decide +kernel⟩
theorem ok__law_rule (T : TX w K mg) : FnR P w K mg base CX0 4 (a__law_rule K) (sp__law_rule K) := by
  obtain ⟨fd, F⟩ := T.fn 84 rfl rfl
  refine fR F sc__law_rule (fun _ _ _ _ _ _ us hl => match us, hl with | [_], _ => rfl) (fun vs H Q E h => ?_) (fun cdv A outer s H vs Q E hr h => ?_)
  · obtain ⟨p, rfl, hp, k⟩ := h
    rfl
  · obtain ⟨p, rfl, hp, k⟩ := h
    refine ⟨_, (pss_one (ps_ret (pe_cf (ok__law_pick T) (hr.mono (by decide)) (by rfl) (T.gf "_law_pick") (pa_cons (pv 0) (pa_cons (pe_lst (pa_cons pe_str (pa_cons pe_str (pa_cons pe_str pa_nil)))) pa_nil))))), ?_⟩
    refine ⟨_, rfl, ll rfl, fun l1 n1 => ?_⟩
    have s3 := Same.new (o := .lst ([.str "first", .str "last", .str "all"] : List V)) n1
    refine ⟨_, _, _, rfl, hp.same s3, .of upd_same, hp.ne n1, by decide, lt_b rfl, fun H' x d hx => ?_⟩
    obtain ⟨z, hz, rfl⟩ := List.mem_map.mp (show x ∈ List.map V.str lRULES from hx)
    exact k _ _ ((Dw.same hp s3).trans d) hz
def sp__law_finals (K : PySem.W.Frag) : Sp := fun vs H Q E => ∃ p n, vs = [.ref p, .int ((n : Nat) : Int)] ∧ Pen H p ∧ n ≤ 6 ∧ ∀ H' r fs, Dw p H H' → SqT K H' r (List.map (fun j : Nat => V.int (j : Int)) fs) → fs.Pairwise (· < ·) → (∀ j ∈ fs, j < n) → Q (.ref r) H'
theorem sc__law_finals : FnScope ["_law_pen_here", "_law_many", "_law_at"] ["_law_pen_here", "_law_many"] (defScope s__law_finals) := ⟨rfl, rfl, rfl, by decide +kernel, rfl, by decide +kernel, by decide +kernel⟩
theorem ok__law_finals (T : TX w K mg) : FnR P w K mg base CX0 3 (a__law_finals K) (sp__law_finals K) := by
  obtain ⟨fd, F⟩ := T.fn 83 rfl rfl
  refine fR F sc__law_finals (fun _ _ _ _ _ _ us hl => match us, hl with | [_, _], _ => rfl) (fun vs H Q E h => ?_) (fun cdv A outer s H vs Q E hr h => ?_)
  · obtain ⟨p, n, rfl, hp, hn, k⟩ := h
    rfl
  · obtain ⟨p, n, rfl, hp, hn, k⟩ := h
    refine ⟨_, (pss_one (ps_ret (pe_callTy call_tuple_of (by rfl) (T.free "tuple") (by decide +kernel) (pa_cons (pe_lc (own := [("_law_at", 2)]) rfl sc__law_finals.nd (pi_range1 rfl (T.free "range") (pa_cons (pv 1) pa_nil)) (blkN sc__law_finals) (fun _ _ _ _ _ => pgn 2 sc__law_finals.nd) (fun _ _ _ _ _ => pts_one (pt_cmpR op_gt (pe_cf (ok__law_draw T) (hr.mono (by decide)) (by rfl) (T.gf "_law_draw") (pa_cons (pv 0) (pa_cons pe_int pa_nil))) pe_int (nomark _))) (fun _ _ _ _ _ => pv 2)) pa_nil)))), ?_⟩
    refine ⟨_, rfl, _, rfl, by omega, by omega, fun A nA => lc_it walk_range (fun i H' => Dw p H H' ∧ ∃ fs : List Nat, H' A = some (.lst (List.map (fun j : Nat => V.int (j : Int)) fs)) ∧ fs.length ≤ i ∧ fs.Pairwise (· < ·) ∧ ∀ j ∈ fs, j < i) ⟨(Dw.refl hp).wr nA, [], upd_same, Nat.le_refl _, .nil, fun j hj => (nomatch hj)⟩ (fun _ _ _ _ => True.intro) ?_ ?_⟩
    · rintro i x H1 H2 hi ⟨d, fs, e1, e2, e3, e4⟩ ⟨rfl, rfl⟩
      have hi : i < n := by simpa using hi
      refine ⟨rfl, _, rfl, _, _, rfl, d.n, by decide, by decide, fun H3 r d3 r0 r1 => ⟨_, _, rfl, rfl, _, rfl, ?_⟩⟩
      have e5 := d3.f _ _ e1 (by simpa using hp.ne nA)
      by_cases h : 0 < r
      · rw [decide_eq_true h]
        refine ⟨_, rfl, _, e5, by rw [List.length_map]; exact Nat.lt_of_le_of_lt e2 (Nat.lt_trans (Nat.lt_of_lt_of_le hi hn) (ls rfl)), (d.trans d3).wr nA, fs ++ [i], ?_, by rw [List.length_append]; exact Nat.succ_le_succ e2, ?_, ?_⟩
        · rw [upd_same, List.map_append]
          simp
        · refine List.pairwise_append.mpr ⟨e3, by simp, fun x hx y hy => ?_⟩
          obtain rfl : y = i := by simpa using hy
          exact e4 x hx
        · intro j hj
          rcases List.mem_append.mp hj with hj | hj
          · exact Nat.lt_succ_of_lt (e4 j hj)
          · obtain rfl : j = i := by simpa using hj
            exact Nat.lt_succ_self _
      · rw [decide_eq_false h]
        exact ⟨d.trans d3, fs, e5, Nat.le_succ_of_le e2, e3, fun j hj => Nat.lt_succ_of_lt (e4 j hj)⟩
    · rintro H1 ⟨d, fs, e1, e2, e3, e4⟩
      exact ⟨_, _, rfl, .inl ⟨.of e1, fun q nq => k _ _ fs (d.thn (Same.new nq)) (.of upd_same) e3 fun j hj => by simpa using e4 j hj⟩⟩
def OkEs (m : Nat) (es : List (Str × Nat)) : Prop := es.length ≤ 3 ∧ ∀ e ∈ es, e.1 ∈ lSTEPS ∧ e.2 < m
def OkNds (nds : Nds) : Prop := 1 ≤ nds.length ∧ nds.length ≤ 5 ∧ ∀ es ∈ nds, OkEs nds.length es
/-- the loop of nodes -/
def MnP (K : PySem.W.Frag) (p : Addr) (H : Hp) (m : Nat) (L : Addr) (i : Nat) (H' : Hp) : Prop := Dw p H H' ∧ ∃ xs nds, H' L = some (.lst xs) ∧ xs.length = i ∧ Paired (NodeT K H') xs nds ∧ ∀ es ∈ nds, OkEs m es
theorem Paired.len {α β : Type} {F : α → β → Prop} {xs : List α} {ys : List β} (h : Paired F xs ys) : xs.length = ys.length := Paired.length h
theorem MnP.push {p L t : Addr} {H H1 H2 : Hp} {m i : Nat} {ys : List V} {es : List (Str × Nat)} (M : MnP K p H m L i H1) (hL : H L = none) (d : Dw p H1 H2) (hy : Paired (EdgeT K H2) ys es) (hes : OkEs m es)
    (nt : H2 t = none) (hi : i < 6) : ∃ xs, upd H2 t (.tup ys) L = some (.lst xs) ∧ xs.length < sizeLine ∧ MnP K p H m L (i + 1) (upd (upd H2 t (.tup ys)) L (.lst (xs ++ [.ref t]))) := by
  obtain ⟨d0, xs, nds, e1, e2, e3, e4⟩ := M
  have nL : L ≠ p := d0.o.ne hL
  have e5 := d.f _ _ e1 (by simpa using nL)
  have e6 : upd H2 t (.tup ys) L = some (.lst xs) := Same.new nt _ _ e5
  refine ⟨xs, e6, by rw [e2]; exact Nat.lt_trans hi (ls rfl), (((d0.trans d).thn (Same.new nt)).wr hL), xs ++ [.ref t], nds ++ [es], upd_same, by rw [List.length_append, e2]; rfl, ?_, ?_⟩
  · have k1 : Tk K H2 (upd H2 t (.tup ys)) := fun _ _ h => Same.tup (Same.new nt) h
    have k2 : Tk K (upd H2 t (.tup ys)) (upd (upd H2 t (.tup ys)) L (.lst (xs ++ [.ref t]))) := Tk.upd e6
    have k3 : Tk K H1 (upd (upd H2 t (.tup ys)) L (.lst (xs ++ [.ref t]))) := fun a l h => k2 _ _ (k1 _ _ (d.tk a l h))
    refine Paired.snoc (Paired.mapP e3 fun _ _ => NodeT.tk k3) ⟨t, ys, rfl, k2 _ _ (.of upd_same), Paired.mapP hy fun _ _ => EdgeT.tk fun a l h => k2 _ _ (k1 a l h)⟩
  · intro z hz
    rcases List.mem_append.mp hz with hz | hz
    · exact e4 z hz
    · obtain rfl : z = es := by simpa using hz
      exact hes
def sp__law_mirror_nodes (K : PySem.W.Frag) : Sp := fun vs H Q E => ∃ p, vs = [.ref p, .int 5] ∧ Pen H p ∧ ∀ H' r nds, Dw p H H' → NodesT K H' r nds → OkNds nds → Q (.ref r) H'
theorem sc__law_mirror_nodes : FnScope ["_law_pen_here", "_law_most", "_law_many", "_law_nodes", "_law_line", "_law_at", "_law_wide", "_law_edges", "_law_lap"] ["_law_pen_here", "_law_most"] (defScope s__law_mirror_nodes) := ⟨rfl, rfl, rfl, by decide +kernel, rfl, by decide +kernel, by decide +kernel⟩
theorem ok__law_mirror_nodes (T : TX w K mg) : FnR P w K mg base CX0 5 (a__law_mirror_nodes K) (sp__law_mirror_nodes K) := by
  obtain ⟨fd, F⟩ := T.fn 82 rfl rfl
  refine fR F sc__law_mirror_nodes (fun _ _ _ _ _ _ us hl => match us, hl with | [_, _], _ => rfl) (fun vs H Q E h => ?_) (fun cdv A outer s H vs Q E hr h => ?_)
  · obtain ⟨p, rfl, hp, k⟩ := h
    rfl
  · obtain ⟨p, rfl, hp, k⟩ := h
    refine ⟨_, (pss_cons (ps_asg (pe_tup (pa_cons (pe_op op_add pe_int (pe_cf (ok__law_draw T) (hr.mono (by decide)) (by rfl) (T.gf "_law_draw") (pa_cons (pv 0) (pa_cons (pv 1) pa_nil)))) (pa_cons (pe_lst pa_nil) (pa_cons (pe_cf (ok__law_draw T) (hr.mono (by decide)) (by rfl) (T.gf "_law_draw") (pa_cons (pv 0) (pa_cons pe_int pa_nil))) pa_nil)))) (pg_tup rfl (pgs_cons (pgn 2 sc__law_mirror_nodes.nd) (pgs_cons (pgn 3 sc__law_mirror_nodes.nd) (pgs_cons (pgn 4 sc__law_mirror_nodes.nd) pgs_nil)))))
      (pss_cons (ps_for PassesOwn.never rfl (pi_range1 rfl (T.free "range") (pa_cons (pv 2) pa_nil)) (pgn 5 sc__law_mirror_nodes.nd)
        (pss_cons (pst 6 sc__law_mirror_nodes.nd (pe_cf (ok__law_pick T) (hr.mono (by decide)) (by rfl) (T.gf "_law_pick") (pa_cons (pv 0) (pa_cons (pe_lst (pa_cons pe_int (pa_cons pe_int (pa_cons pe_int (pa_cons pe_int (pa_cons pe_int (pa_cons pe_int (pa_cons pe_int pa_nil)))))))) pa_nil))))
        (pss_cons (ps_setLc (i := 7) (own := [("_law_lap", 8)]) rfl sc__law_mirror_nodes.nd rfl rfl rfl (pi_range1 rfl (T.free "range") (pa_cons (pv 6) pa_nil)) (blkN sc__law_mirror_nodes) (fun _ _ _ _ _ => pgn 8 sc__law_mirror_nodes.nd) (fun _ _ _ _ _ => pts_nil) (fun _ _ _ _ _ => pe_tup (pa_cons (pe_cf (ok__law_mirror_step T) (hr.mono (by decide)) (by rfl) (T.gf "_law_mirror_step") (pa_cons (pv 0) pa_nil)) (pa_cons (pe_cf (ok__law_draw T) (hr.mono (by decide)) (by rfl) (T.gf "_law_draw") (pa_cons (pv 0) (pa_cons (pv 2) pa_nil))) pa_nil))))
        (pss_cons (ps_if (PW.pt (pw_and (pt_cmpR op_eq (pv 4) pe_int (nomark _)) (pw_and1 (pt_cmpR op_lt (pe_op op_add (pv 5) pe_int) (pv 2) (nomark _)))))
          (pss_one (pst 7 sc__law_mirror_nodes.nd (pe_op op_cat (pe_lst (pa_cons (pe_tup (pa_cons (pe_cf (ok__law_mirror_step T) (hr.mono (by decide)) (by rfl) (T.gf "_law_mirror_step") (pa_cons (pv 0) pa_nil)) (pa_cons (pe_op op_add (pv 5) pe_int) pa_nil))) pa_nil)) (pe_slice sl_list (pv 7) (po_some pe_int) po_none))))
          pss_nil)
        (pss_one (ps_expr (pe_bm PySem.F.plainAttrs_list PySem.F.slot_list_append PySem.F.type_list_append mt_append (pv 3) (pa_cons (pe_callTy call_tuple_of (by rfl) (T.free "tuple") (by decide +kernel) (pa_cons (pv 7) pa_nil)) pa_nil))))))))
      (pss_one (ps_ret (pe_callTy call_tuple_of (by rfl) (T.free "tuple") (by decide +kernel) (pa_cons (pv 3) pa_nil)))))), ?_⟩
    refine ⟨_, rfl, _, rfl, _, _, rfl, hp, by decide, by decide, fun H1 r1 d1 r10 r11 => ⟨_, _, rfl, rfl, ll rfl, fun L nL => ⟨_, rfl, _, _, rfl, d1.n.same (Same.new nL), by decide, by decide, fun H2x r2 d2x r20 r21 => ⟨ll rfl, fun tt nt => ⟨_, _, rfl, .of upd_same, rfl, _, _, rfl, _, _, rfl, _, _, rfl, rfl, ?_⟩⟩⟩⟩⟩
    have d2 := d2x.thn (Same.new (o := .tup [.int (1 + r1), .ref L, .int r2]) nt)
    obtain ⟨m, hm, hm1, hm5⟩ : ∃ m : Nat, 1 + r1 = (m : Int) ∧ 1 ≤ m ∧ m ≤ 5 := ⟨(1 + r1).toNat, by omega, by omega, by omega⟩
    have nLp : L ≠ p := d1.n.ne nL
    have eL : upd H2x tt (.tup [.int (1 + r1), .ref L, .int r2]) L = some (.lst []) := d2.f _ _ upd_same (by simpa using nLp)
    have hL0 : H L = none := d1.no nL
    have dd : Dw p H (upd H2x tt (.tup [.int (1 + r1), .ref L, .int r2])) := (d1.thn (Same.new nL)).trans d2
    refine ⟨_, rfl, _, rfl, ?_, ?_, for_it walk_range (fun i σ H' => (∃ u5 u6 u7 u8, σ = [some (.ref p), some (.int 5), some (.int (m : Int)), some (.ref L), some (.int r2), u5, u6, u7, u8]) ∧ MnP K p H m L i H') ⟨⟨_, _, _, _, by rw [← hm]; rfl⟩, dd, [], [], eL, rfl, .nil, fun es h => (nomatch h)⟩ (fun _ _ _ _ _ => True.intro) ?_ ?_⟩
    · omega
    · omega
    · rintro i x σ _ H3 hi ⟨⟨u5, u6, u7, u8, rfl⟩, M⟩ ⟨rfl, rfl⟩
      have hi : i < m := by omega
      have hi6 : i < 6 := by omega
      have d3 := M.1
      refine ⟨_, rfl, ll rfl, fun l4 n4 => ⟨_, _, _, rfl, d3.n.same (Same.new n4), .of upd_same, d3.n.ne n4, by decide, lt_b rfl, fun H4 x4 d4 hx4 => ?_⟩⟩
      obtain ⟨w4, hw, rfl⟩ := List.mem_map.mp (show x4 ∈ List.map V.int ([1, 1, 1, 2, 2, 3, 0] : List Int) from hx4)
      have hw4 : 0 ≤ w4 ∧ w4 ≤ 3 := by
        have hs : ∀ z ∈ ([1, 1, 1, 2, 2, 3, 0] : List Int), 0 ≤ z ∧ z ≤ 3 := by decide
        exact hs _ hw
      refine ⟨_, rfl, _, rfl, by omega, by omega, fun A nA => lc_it walk_range (fun j H' => Dw p H4 H' ∧ ∃ ys es, H' A = some (.lst ys) ∧ ys.length = j ∧ Paired (EdgeT K H') ys es ∧ ∀ e ∈ es, e.1 ∈ lSTEPS ∧ e.2 < m) ⟨(Dw.refl d4.n).wr nA, [], [], upd_same, rfl, .nil, fun e h => (nomatch h)⟩ (fun _ _ _ _ => True.intro) ?_ ?_⟩
      · rintro j y _ H5 hj ⟨d5, ys, es, e1, e2, e3, e4⟩ ⟨rfl, rfl⟩
        refine ⟨rfl, _, rfl, _, rfl, d5.n, fun H6 z6 d6 hz6 => ⟨_, rfl, _, rfl, _, _, rfl, d6.n, by omega, by omega, fun H7 r7 d7 r70 r71 => ⟨ll rfl, fun t nt => ?_⟩⟩⟩
        have q1 : Dw p H5 (upd H7 t (.tup [.str z6, .int r7])) := (d6.trans d7).thn (Same.new nt)
        have e5 := q1.f _ _ e1 (by simpa using d4.n.ne nA)
        refine ⟨_, e5, by rw [e2]; exact Nat.lt_of_lt_of_le hj (Nat.le_trans (by omega : _ ≤ 3) (Nat.le_of_lt (ls rfl))), (d5.trans q1).wr nA, ys ++ [.ref t], es ++ [(z6, r7.toNat)], upd_same, by rw [List.length_append, e2]; rfl, ?_, ?_⟩
        · have k3 : Tk K (upd H7 t (.tup [.str z6, .int r7])) (upd (upd H7 t (.tup [.str z6, .int r7])) A (.lst (ys ++ [.ref t]))) := Tk.upd e5
          refine Paired.snoc (Paired.mapP e3 fun _ _ => EdgeT.tk fun a l h => k3 _ _ (q1.tk a l h)) ⟨t, rfl, k3 _ _ (.of ?_)⟩
          rw [upd_same]
          show _ = some (HO.tup [V.str z6, V.int ((r7.toNat : Nat) : Int)])
          rw [show ((r7.toNat : Nat) : Int) = r7 by omega]
        · intro e he
          rcases List.mem_append.mp he with he | he
          · exact e4 e he
          · obtain rfl : e = (z6, r7.toNat) := by simpa using he
            exact ⟨hz6, by show r7.toNat < m; omega⟩
      · rintro H5 ⟨d5, ys, es, e1, e2, e3, e4⟩
        have hle : es.length ≤ 3 := by
          have := Paired.length e3
          omega
        have nAp : A ∉ [p] := by simpa using d4.n.ne nA
        have dL : Dw p H3 H5 := ((Dw.same d3.n (Same.new n4)).trans d4).trans d5
        obtain ⟨_, xs0, nds0, eL0, _⟩ := id M
        have eL5 := dL.f _ _ eL0 (by simpa using nLp)
        refine ⟨_, rfl, rfl, _, rfl, ?_⟩
        by_cases h1 : r2 = 1
        · rw [iT h1]
          refine ⟨_, rfl, _, _, rfl, rfl, _, rfl, _, _, rfl, rfl, _, rfl, ?_⟩
          by_cases h2 : (0 + (i : Int)) + 1 < (m : Int)
          · rw [decide_eq_true h2]
            refine ⟨_, rfl, _, rfl, d5.n, fun H6 z6 d6 hz6 => ⟨_, rfl, _, _, rfl, rfl, ll rfl, fun t nt => ⟨ll rfl, fun l5 n5 => ⟨_, rfl, _, rfl, _, ys, rfl, .of (Same.new n5 _ _ (Same.new nt _ _ (d6.f _ _ e1 nAp))), fun l6 n6 => ⟨_, _, _, _, rfl, rfl, Same.new n6 _ _ upd_same, upd_same, ?_, fun l7 n7 => ?_⟩⟩⟩⟩⟩
            · rw [line_eq]
              have := cutV_length ys (some 2) none
              show 1 + _ ≤ _
              omega
            · have s7 := Same.newT (o := .lst ([.ref t] ++ cutV ys (some 2) none)) (Same.newT (o := .lst (cutV ys (some 2) none)) (Same.newT (o := .lst [.ref t]) (Same.new (o := .tup [.str z6, .int (0 + (i : Int) + 1)]) nt) n5) n6) n7
              have dL7 := (dL.trans d6).thn s7
              refine ⟨_, rfl, .inl ⟨rfl, _, .of (dL7.f _ _ eL0 (by simpa using nLp))⟩, _, rfl, _, _, rfl, .inl ⟨.of upd_same, fun t2 nt2 => ?_⟩⟩
              have hy : Paired (EdgeT K (upd (upd (upd (upd H6 t (.tup [.str z6, .int (0 + (i : Int) + 1)])) l5 (.lst [.ref t])) l6 (.lst (cutV ys (some 2) none))) l7 (.lst ([.ref t] ++ cutV ys (some 2) none)))) ([.ref t] ++ cutV ys (some 2) none)
                  ((z6, i + 1) :: ((es.drop (HT.sIx ys.length 0 (some 2))).take (HT.sIx ys.length ys.length none - HT.sIx ys.length 0 (some 2)))) := by
                refine .cons ⟨t, rfl, .of (Same.newT (Same.newT (Same.new n5) n6) n7 _ _ ?_)⟩ (Paired.take _ (Paired.drop _ (Paired.mapP e3 fun _ _ => EdgeT.tk fun a l h => Same.tup s7 (d6.tk a l h))))
                rw [upd_same]
                show _ = some (HO.tup [V.str z6, V.int ((i + 1 : Nat) : Int)])
                rw [show ((i + 1 : Nat) : Int) = 0 + (i : Int) + 1 by omega]
              have hes : OkEs m ((z6, i + 1) :: ((es.drop (HT.sIx ys.length 0 (some 2))).take (HT.sIx ys.length ys.length none - HT.sIx ys.length 0 (some 2)))) := by
                refine ⟨?_, fun e he => ?_⟩
                · have hsx : HT.sIx ys.length 0 (some 2) = min 2 ys.length := HT.sIx_nat _ _ 2
                  rw [List.length_cons, List.length_take, List.length_drop, hsx]
                  have := Paired.length e3
                  omega
                · rcases List.mem_cons.mp he with rfl | he
                  · exact ⟨hz6, by show i + 1 < m; omega⟩
                  · exact e4 e (List.mem_of_mem_drop (List.mem_of_mem_take he))
              obtain ⟨xs, g1, g2, g3⟩ := M.push hL0 dL7 hy hes nt2 hi6
              exact ⟨_, _, _, rfl, rfl, g1, g2, ⟨_, _, _, _, rfl⟩, g3⟩
          · rw [decide_eq_false h2]
            refine ⟨_, rfl, .inl ⟨rfl, _, .of eL5⟩, _, rfl, _, _, rfl, .inl ⟨.of e1, fun t nt => ?_⟩⟩
            obtain ⟨xs, g1, g2, g3⟩ := M.push hL0 dL e3 ⟨hle, e4⟩ nt hi6
            exact ⟨_, _, _, rfl, rfl, g1, g2, ⟨_, _, _, _, rfl⟩, g3⟩
        · rw [iF h1]
          refine ⟨_, rfl, .inl ⟨rfl, _, .of eL5⟩, _, rfl, _, _, rfl, .inl ⟨.of e1, fun t nt => ?_⟩⟩
          obtain ⟨xs, g1, g2, g3⟩ := M.push hL0 dL e3 ⟨hle, e4⟩ nt hi6
          exact ⟨_, _, _, rfl, rfl, g1, g2, ⟨_, _, _, _, rfl⟩, g3⟩
    · rintro σ H3 ⟨⟨u5, u6, u7, u8, rfl⟩, d3, xs, nds, e1, e2, e3, e4⟩
      refine ⟨_, rfl, _, _, rfl, .inl ⟨.of e1, fun t nt => k _ _ nds (d3.thn (Same.new nt)) ⟨xs, .of upd_same, Paired.mapP e3 fun _ _ => NodeT.tk fun a l h => Same.tup (Same.new nt) h⟩ ?_⟩⟩
      have hl : nds.length = m := by
        have := Paired.length e3
        omega
      exact ⟨by omega, by omega, by rw [hl]; exact e4⟩
    
end
end CN
end
section
set_option Elab.async false
set_option linter.all false
set_option maxRecDepth 100000
set_option maxHeartbeats 4000000
/-! enumerate(tuple) -/
namespace CN
open PySem PySem.Spec PyProof.Rows L2 PySem.W
open PySem (Builtin)
open Lean Elab Tactic Meta in
set_option maxHeartbeats 1000000 in
theorem meets_enum1 {v : Value} {o : Obj} {H : Heap → Prop} (B : Begins v o H) :
    Meets (Builtin.«enumerate.__new__» ⟨[.type "enumerate", v], []⟩) (fun _ R s => H s.heap ∧
      R (.ok (.ret (.ref (s.heap.push o).objs.size))) { s with heap := (s.heap.push o).push { cls := .type "enumerate", data := .fields #[.none, .bool false, .ref s.heap.objs.size, rawInt 0, .none, .none] } }) :=
  .of_wp fun prog w A R s h => by
    obtain ⟨hp, g, d, tk, os⟩ := s; obtain ⟨h1, h⟩ := h
    have hsub := sub_enumerate
    have q1 : ∀ {A' : Around} {E : Value → Shared → Prop} {Q : Value → Shared → Prop}, Q (.ref hp.objs.size) ⟨hp.push o, g, d, tk, os⟩ → wpAny (model prog w) A' (pyIter v) Q E ⟨hp, g, d, tk, os⟩ :=
      fun q => B.iter prog w _ _ ⟨hp, g, d, tk, os⟩ _ h1 q
    wp_walk using q1
    refine wpAny_stack_any fun st => wpAny_pure ?_
    split
    · rename_i c _ _ _ _ _
      cases (c == Value.type "enumerate")
      · wp_walk using q1
        exact ⟨_, rfl, h⟩
      · wp_walk using q1
        exact ⟨_, rfl, h⟩
    · wp_walk using q1
      exact ⟨_, rfl, h⟩
section
variable {prog : Program} {w : World} {A : Around} {E : Value → Shared → Prop} {s : Shared}
theorem call_enumT {v : Value} {o : Obj} {H : Heap → Prop} {Q : Value → Shared → Prop} (B : Begins v o H) (h1 : H s.heap)
    (h : ∀ h', IsEnum h' (s.heap.objs.size + 1) s.heap.objs.size 0 .none → h'.get? s.heap.objs.size = some o → h'.objs.size = s.heap.objs.size + 2 →
      (∀ b o, s.heap.get? b = some o → h'.get? b = some o) → Q (.ref (s.heap.objs.size + 1)) { s with heap := h' }) :
    wpAny (model prog w) A (call (.type "enumerate") [v]) Q E s := by
  refine callType_new F.called_enumerate (by decide) (F.typeCall_enumerate_1 _) (F.newCall_enumerate_1 _) (fun obj => F.args_object_init_2 obj _) F.entry_enumerate_new (meets_enum1 B) ⟨h1, ?_⟩
  have hz : (s.heap.push o).objs.size = s.heap.objs.size + 1 := Heap.size_push ..
  show _ ∧ _
  rw [hz]
  have he : IsEnum ((s.heap.push o).push { cls := .type "enumerate", data := .fields #[.none, .bool false, .ref s.heap.objs.size, rawInt 0, .none, .none] }) (s.heap.objs.size + 1) s.heap.objs.size 0 .none := by
    have := Heap.get?_push_size (s.heap.push o) (o := { cls := .type "enumerate", data := .fields #[.none, .bool false, .ref s.heap.objs.size, rawInt 0, .none, .none] }) rfl
    rw [hz] at this
    exact this
  exact ⟨⟨_, he, rfl⟩, h _ he (Heap.get?_push_of_some _ (Heap.get?_push_size _ B.free)) (by rw [Heap.size_push, hz]) fun b o x => Heap.get?_push_of_some _ (Heap.get?_push_of_some _ x)⟩
end
theorem endT {prog : Program} {w : World} {A : Around} {E : Value → Shared → Prop} {s : Shared} {e it l : Addr} {i : Nat} {items : Array Value} {old : Value} {Q : Option Value → Shared → Prop} (hh : A.handled = none)
    (he : IsEnum s.heap e it i old) (hit : s.heap.IsTupleIter it l i) (hl : s.heap.IsTuple l items) (hx : items[i]? = none)
    (hQ : ∀ h', Heap.ExtBut it s.heap h' → Q none { s with heap := h' }) : wpAny (model prog w) A (pyNext (.ref e)) Q E s := by
  have hT : s.TypeIs (.ref e) "enumerate" := ⟨_, he, rfl⟩
  unfold pyNext
  refine wpAny_bind (wpAny_attempt (wpAny_callSpecial?_slot (name := Str.ofString "__next__") hT F.slot_enumerate_next
    (wpAny_call_entry F.slot_enumerate_next hT F.entry_enumerate_next ?_ (F.args_enumerate_next_1 _))))
  show wpAny _ _ (field (.ref e) 2 >>= _) _ _ _
  refine wpAny_bind (wpAny_field he rfl (x := .ref it) rfl ?_)
  refine wpAny_bind (wpAny_nextOf_tuple_end hh hit hl hx fun h' x he' hx' => ?_)
  obtain ⟨o, ho, hc⟩ := hx'
  refine wpAny_bind (wpAny_isInstance (T := "StopIteration") (b := true) ⟨o, ho, hc⟩ isSubtype_stop ?_)
  exact wpAny_pure (hQ _ he')
/-- the tuple at a, each item in a new pair -/
def IteT (K : PySem.W.Frag) (a : Addr) : It :=
  ⟨fun i H => ∃ (xs : List V) (x : V), SqT K H a xs ∧ xs[i]? = some x, fun i H v H' => ∃ T x, v = .ref T ∧ H T = none ∧ H' = upd H T (.tup [.int (i : Nat), x]) ∧ ∀ xs, SqT K H a xs → xs[i]? = some x, fun i H => ∃ xs : List V, SqT K H a xs ∧ xs.length ≤ i⟩
theorem turn_enumT {P : Program} {w : World} {K : PySem.W.Frag} {elts : List Expr} {kk : Nat} {tpos : Pos} (a e it : Addr) :
    Turn P w K (.Tuple elts kk tpos) (IteT K a) [e, it] e (fun i h => (∃ old, IsEnum h e it ((i : Nat) : Int) old) ∧ h.IsTupleIter it a i ∧ e ≠ it ∧ a ≠ e ∧ a ≠ it) where
  mem := by simp
  obj := fun i h st b hb => by
    obtain ⟨⟨old, he⟩, ⟨o, ho, hc, hd⟩, _⟩ := st
    have e' : b = e ∨ b = it := by simpa using hb
    rcases e' with z | z
    · rw [z]; exact ⟨_, he, fun v q => nomatch q⟩
    · rw [z]; exact ⟨o, ho, fun v q => by rw [hd] at q; cases q⟩
  keep := fun i h h' st k => let ⟨⟨old, he⟩, hi, hne⟩ := st; ⟨⟨old, k e (by simp) _ he⟩, hi.at fun o q => k it (by simp) o q, hne⟩
  item := by
    intro X hP hw hK hc i pins s σ H E I hf st hg
    subst hP hw hK
    obtain ⟨⟨old, he⟩, hit, hne, hae, hai⟩ := st
    obtain ⟨xs, x, hq, hx⟩ := hg
    obtain ⟨its, rv, p, hz⟩ := I.tuple hq
    obtain ⟨u, hu, ru⟩ := rv.get hx
    have hel : e < s.heap.objs.size := Heap.lt_size he
    have hil : it < s.heap.objs.size := by obtain ⟨_, q, _⟩ := hit; exact Heap.lt_size q
    have hT : s.heap.IsTuple a its.toArray := p
    have hlt : i < its.toArray.size := by
      rw [List.size_toArray]
      exact (List.getElem?_eq_some_iff.mp hu).1
    refine wpAny_pyNext_enum_itemD (Draws.tuple (A := X.A.in1) (show X.A.in1.handled = none from I.ok.hd hc) it a hai its.toArray) he ⟨hit, hT⟩ hlt hne (by simp [hne, Ne.symm hae]) fun x' h' tk hx' ho hit' hT2 hsz hk => ?_
    have exu : x' = u := by
      have h1 : its[i]? = some x' := by simpa using hx'
      rw [hu] at h1
      exact (Option.some.inj h1).symm
    subst exu
    refine ⟨_, rfl, wpAny_letOwnedTupleGo_enum (s := { s with heap := h', toks := tk + 1 }) ho fun h'' he' sb => ?_⟩
    have hT3 : h''.get? s.heap.objs.size = some { cls := .type "tuple", data := .seq #[.int i tk, x'] } := (sb.2 _ (Nat.ne_of_gt hel)).trans hT2
    have new : ObjOk X.prog X.w (upd H s.heap.objs.size (.tup [.int (i : Nat), x])) h'' s.heap.objs.size (.tup [.int (i : Nat), x]) :=
      ⟨by show 2 ≤ sizeLine; decide, [.int i tk, x'], .cons ⟨_, rfl⟩ (.cons ru .nil), ⟨_, hT3, rfl, _, rfl⟩⟩
    have I1 : Inv X pins σ (upd H s.heap.objs.size (.tup [.int (i : Nat), x])) { s with heap := h'', toks := tk + 1 } :=
      I.turnedNew (ch := [e, it]) (fun b ob hb q => (sb.2 b (fun z => hb (by simp [z]))).trans (hk b ob (fun z => hb (by simp [z])) (fun z => hb (by simp [z])) q)) hf (Nat.le_refl _) new
    refine ⟨.ref s.heap.objs.size, _, I1, rfl, ⟨_, x, rfl, I.hok.fresh (Nat.le_refl _), rfl, fun ys hy => by rw [I.tuple_inj hy hq]; exact hx⟩, ⟨⟨x', ?_⟩, hit'.1.at fun o q => (sb.2 it (Ne.symm hne)).trans q, hne, hae, hai⟩, fun b hb => ?_⟩
    · have e1 : ((i + 1 : Nat) : Int) = (i : Int) + 1 := by omega
      rw [e1]; exact he'
    · have hb' : b < s.heap.objs.size := by
        have e' : b = e ∨ b = it := by simpa using hb
        rcases e' with z | z
        · rw [z]; exact hel
        · rw [z]; exact hil
      rw [upd_ne (Nat.ne_of_lt hb')]
      exact (hf b hb).1
  done := by
    intro X hP hw hK hc i pins s σ H E I hf st hg
    subst hP hw hK
    obtain ⟨⟨old, he⟩, hit, hne, hae, hai⟩ := st
    obtain ⟨xs, hq, hx⟩ := hg
    obtain ⟨its, rv, p, hz⟩ := I.tuple hq
    obtain ⟨f0, f1, f2, f3, f4, f5⟩ := hf it (by simp)
    have hl := rv.length
    exact endT (I.ok.hd hc) he hit (show s.heap.IsTuple a its.toArray from p) (by simp; omega) fun h' eb => ⟨rfl, I.turned (t' := s.toks) (fun b o hb q => eb b o hb q) f0 f1 f3 f4 f5⟩
  self := fun A i s Q E st h => let ⟨⟨_, he⟩, _⟩ := st; wpAny_pyIter_enum he h
def iEnumT (K : PySem.W.Frag) (ta : TA) : TI := fun σ H R => ta σ H fun vs H1 => ∃ a xs, vs = [.ref a] ∧ SqT K H1 a xs ∧ R (IteT K a) H1
theorem pi_enumT {X : Cx} {e : Expr} {ta : TA} {p pos tpos : Pos} {elts : List Expr} {kk : Nat} (hg : Gl X "enumerate") (hm : X.mg "enumerate" = none) (ha : PA X [e] ta) (hs : starEach [e] X.env = [(false, eval e X.env)] := by rfl) :
    PI X (.Tuple elts kk tpos) (.Call (.Name "enumerate" p) [e] [] pos) (iEnumT X.K ta) := by
  refine ⟨fun pins s σ H R I h => ?_⟩
  refine Call_ (ld_blt I hg hm boot_enumerate (PyProof.Rows.callWith_type1 (thn (ha.run pos pins s σ H _ I h) fun us s1 ⟨vs, H1, I1, r1, q1⟩ => ?_) hs rfl))
  obtain ⟨a, xs, ex, hq, q⟩ := q1
  subst ex
  cases r1 with
  | cons r rr =>
    cases rr
    cases r
    obtain ⟨its, rv, p', hz⟩ := I1.tuple hq
    have hal : a < s1.heap.objs.size := p'.lt
    refine call_enumT (begins_tuple a its.toArray) p' fun h' he hit hsz hk => wpAny_pyIter_enum he ?_
    have I2 : Inv X pins σ H1 { s1 with heap := h' } := I1.kept (t' := s1.toks) hk
    refine ⟨s1.heap.objs.size + 1, [s1.heap.objs.size + 1, s1.heap.objs.size], _, _, H1, rfl, I2, turn_enumT a (s1.heap.objs.size + 1) s1.heap.objs.size, ⟨⟨.none, he⟩, ⟨_, hit, rfl, rfl⟩, Nat.succ_ne_self _, Nat.ne_of_lt (Nat.lt_succ_of_lt hal), Nat.ne_of_lt hal⟩, fun b hb => ?_, q⟩
    have e' : b = s1.heap.objs.size + 1 ∨ b = s1.heap.objs.size := by simpa using hb
    have hle : s1.heap.objs.size ≤ b := by
      rcases e' with z | z
      · rw [z]; exact Nat.le_add_right _ _
      · rw [z]; exact Nat.le_refl _
    exact I1.fpOk hle (I1.hok.fresh hle)
theorem walk_enumT {K : PySem.W.Frag} {a : Addr} {xs : List V} : Walk (IteT K a) xs.length (fun H => SqT K H a xs) (YPair (fun i => some (.int (i : Nat))) (fun i => xs[i]?)) := by
  refine ⟨fun i _ hi q => ⟨xs, xs[i], q, by simp [hi]⟩, fun _ q => ⟨xs, q, Nat.le_refl _⟩, fun i H v H' _ q y => ?_⟩
  obtain ⟨T, x, h1, h2, h3, h4⟩ := y
  exact ⟨T, .int (i : Nat), x, h1, h2, h3, rfl, h4 xs q⟩
end CN
end
section
set_option Elab.async false
set_option linter.all false
set_option maxRecDepth 100000
set_option maxHeartbeats 4000000
/-! for k, v in d.items(), d a new dict whose keys are tuples -/
namespace CN
open PySem PySem.Spec PyProof.Rows L2 PySem.W
def ItiT (d : Addr) (o : Obj) (kvs : List (List Key × V)) : It :=
  ⟨fun i H => H d = some (.frz o (.dT kvs)) ∧ i < kvs.length, fun i H x H' => ∃ T k v q, kvs[i]? = some (k, v) ∧ x = .ref T ∧ H T = none ∧ H q = some (.tup (List.map kV k)) ∧ H' = upd H T (.tup [.ref q, v]), fun i H => H d = some (.frz o (.dT kvs)) ∧ kvs.length ≤ i⟩
section
variable {X : Cx} {pins : List (Addr × Obj)} {σ : L2.St} {H : Hp} {s : Shared} {d : Addr} {o : Obj} {es : Array DictEntry} {ep : Nat}
theorem frzT2 {kvs : List (List Key × V)} (I : Inv X pins σ H s) (h : H d = some (.frz o (.dT kvs))) :
    (d == sysModules) = false ∧ s.heap.get? d = some o ∧ o.ExactDict ∧ ∃ (es : Array DictEntry) (ep : Nat), o.data = .dict es ep ∧ es.size = kvs.length ∧
      ∀ (i : Nat) (k : List Key) (v : V), kvs[i]? = some (k, v) → ∃ (en : DictEntry) (q : Addr), es[i]? = some en ∧ en.key = .ref q ∧ H q = some (.tup (k.map kV)) ∧ RelV v en.val := by
  obtain ⟨hd, z, hs, xs, pr, o', es, ep, ho, hx, hdt, he, _⟩ := I.hok d _ h
  rw [hd] at ho
  cases ho
  refine ⟨hs, hd, hx, es, ep, hdt, ?_, fun i k v e => ?_⟩
  · have l1 : es.size = xs.length := size_of_entries he
    have l2 : kvs.length = xs.length := Paired.length pr
    omega
  · obtain ⟨b, hb, e1, e2, e3⟩ := paired_get pr e
    have q := entry_at he i
    rw [hb] at q
    exact ⟨_, b.2.1, q, rfl, e2, e3⟩
theorem turn_itemsT {P : Program} {w : World} {K : PySem.W.Frag} {kvs : List (List Key × V)} {elts : List Expr} {kk : Nat} {tpos : Pos} (it : Addr) (hod : o.data = .dict es ep) :
    Turn P w K (.Tuple elts kk tpos) (ItiT d o kvs) [it] it (fun i h => ∃ ok ov, IsItemIter h it d i kvs.length ep ok ov) where
  mem := by simp
  obj := fun i h st b hb => by
    have e : b = it := by simpa using hb
    subst e
    obtain ⟨ok, ov, e⟩ := st
    exact ⟨_, e, fun v z => nomatch z⟩
  keep := fun i h h' st k => let ⟨ok, ov, e⟩ := st; ⟨ok, ov, k it (by simp) _ e⟩
  item := by
    intro X hP hw hK hc i pins s σ H E I hf st hg
    subst hP hw hK
    obtain ⟨hd, hi⟩ := hg
    obtain ⟨hs, hgd, hx, es', ep', hdt, hsz, ent⟩ := frzT2 I hd
    obtain ⟨rfl, rfl⟩ := dict_ep hod hdt
    obtain ⟨⟨k, v⟩, hkv⟩ : ∃ p, kvs[i]? = some p := ⟨kvs[i], List.getElem?_eq_getElem hi⟩
    obtain ⟨en, q, hen, hkey, hq, hval⟩ := ent i k v hkv
    have hi2 : i < es'.size := by omega
    have een : es'[i] = en := by
      rw [Array.getElem?_eq_getElem hi2] at hen
      exact Option.some.inj hen
    obtain ⟨ok, ov, he⟩ := st
    rw [← hsz] at he
    have hlt : it < s.heap.objs.size := Heap.lt_size he
    refine wpAny_pyNext_items_item_raw he ⟨o, hgd, hx, hdt⟩ hi2 fun h' ho hT hz hk => ?_
    refine ⟨_, rfl, wpAny_letOwnedTupleGo_items (s := { s with heap := h' }) ho fun h'' he' sb => ?_⟩
    have hT2 : h''.get? s.heap.objs.size = some { cls := .type "tuple", data := .seq #[es'[i].key, es'[i].val] } := (sb.2 _ (Nat.ne_of_gt hlt)).trans hT
    have new : ObjOk X.prog X.w (upd H s.heap.objs.size (.tup [.ref q, v])) h'' s.heap.objs.size (.tup [.ref q, v]) :=
      ⟨by show 2 ≤ sizeLine; decide, [es'[i].key, es'[i].val], .cons (by rw [een, hkey]; rfl) (.cons (by rw [een]; exact hval) .nil), ⟨_, hT2, rfl, _, rfl⟩⟩
    have I1 : Inv X pins σ (upd H s.heap.objs.size (.tup [.ref q, v])) { s with heap := h'' } :=
      I.turnedNew (t' := s.toks) (ch := [it]) (fun b ob hb e => (sb.2 b (by simpa using hb)).trans (hk b ob (by simpa using hb) e)) hf (Nat.le_refl _) new
    refine ⟨.ref s.heap.objs.size, _, I1, rfl, ⟨_, k, v, q, hkv, rfl, I.hok.fresh (Nat.le_refl _), hq, rfl⟩, ⟨es'[i].key, es'[i].val, ?_⟩, fun b hb => ?_⟩
    · rw [← hsz]; exact he'
    · have e : b = it := by simpa using hb
      rw [e, upd_ne (Nat.ne_of_lt hlt)]
      exact (hf it (by simp)).1
  done := by
    intro X hP hw hK hc i pins s σ H E I hf st hg
    subst hP hw hK
    obtain ⟨hd, hi⟩ := hg
    obtain ⟨f0, f1, f2, f3, f4, f5⟩ := hf it (by simp)
    obtain ⟨hs, hgd, hx, es', ep', hdt, hsz, ent⟩ := frzT2 I hd
    obtain ⟨rfl, rfl⟩ := dict_ep hod hdt
    obtain ⟨ok, ov, he⟩ := st
    rw [← hsz] at he
    exact wpAny_pyNext_items_end_raw (I.ok.hd hc) he ⟨o, hgd, hx, hdt⟩ (by omega) fun h' eb => ⟨rfl, I.turned (t' := s.toks) (fun b ob hb e => eb b ob hb e) f0 f1 f3 f4 f5⟩
  self := fun A i s Q E st h => let ⟨_, _, e⟩ := st; PySem.W.kcp_self e h
def iItemsT (td : TE) : TI := fun σ H R => td σ H fun x H1 => ∃ d kvs, x = .ref d ∧ H1 d = some (.dT kvs) ∧ ∀ od, R (ItiT d od kvs) (upd H1 d (.frz od (.dT kvs)))
theorem pi_itemsT {e : Expr} {td : TE} {apos cpos : Pos} {elts : List Expr} {kk : Nat} {tpos : Pos} (he : PE X e td) (hbase : attributeBase e "items" X.env (eval e X.env) = eval e X.env := by rfl) (hline : (apos.endLine == cpos.line) = true := by rfl) :
    PI X (.Tuple elts kk tpos) (.Call (.Attribute e "items" apos) [] [] cpos) (iItemsT td) := by
  refine ⟨fun pins s σ H R I h => ?_⟩
  refine wpAny_Call_method (T := "dict") (id := "dict.items") hbase rfl hline F.plainAttrs_dict F.slot_dict_items F.type_dict_items (thn (he.run pins s σ H _ I h) fun u s1 ⟨x, H1, I1, rx, d, kvs, ex, hd, q⟩ => ?_)
  subst ex
  obtain rfl : u = Value.ref d := rx
  obtain ⟨od, I2⟩ := I1.lock hd True.intro
  have hd2 : (upd H1 d (.frz od (.dT kvs))) d = some (.frz od (.dT kvs)) := upd_same
  obtain ⟨hs, hgd, hx, es, ep, hdt, hsz, ent⟩ := frzT2 I2 hd2
  have raw : s1.heap.DictRaw d es ep := ⟨od, hgd, hx, hdt⟩
  refine ⟨raw.typeIs, fun b z => ⟨od, by cases z; exact hgd, hx.2.1⟩, ?_⟩
  have I3 : Inv X pins σ (upd H1 d (.frz od (.dT kvs))) { s1 with heap := s1.heap.push { cls := .type "dict_items", data := .fields #[.ref d] } } := I2.kept (t' := s1.toks) fun b ob q => Heap.get?_push_of_some _ q
  have fin : wpAny (model X.prog X.w) X.A (pyIter (.ref s1.heap.objs.size)) (PIE X pins σ (.Tuple elts kk tpos) R) X.xe { s1 with heap := s1.heap.push { cls := .type "dict_items", data := .fields #[.ref d] } } := by
    refine wpAny_pyIter_items_raw (d := d) ⟨_, Heap.get?_push_size _ rfl, rfl, rfl⟩ (raw.at fun o e => Heap.get?_push_of_some _ e) (pi_one (tk := s1.toks) I3 _ (turn_itemsT _ hdt) ⟨.none, .none, ?_⟩ (q od))
    rw [← hsz]
    exact Heap.get?_push_size _ rfl
  show wpAny _ _ (callWith cpos (.builtin "dict.items") [.ref d] [] []) _ X.xe s1
  exact method_meetsIn F.slot_dict_items F.entry_dict_items rfl (PySem.evalArgs_none ⟨rfl, raw.typeIs, F.args_dict_items_1 _, _, meets_dict_items_raw d hs, ⟨_, _, raw⟩, fin⟩)
/-- the pairs of it -/
def YItT (kvs : List (List Key × V)) : Nat → Hp → V → Hp → Prop := fun i H x H' => ∃ T k v q, kvs[i]? = some (k, v) ∧ x = .ref T ∧ H T = none ∧ H q = some (.tup (List.map kV k)) ∧ H' = upd H T (.tup [.ref q, v])
theorem walk_itemsT {kvs : List (List Key × V)} : Walk (ItiT d o kvs) kvs.length (fun H => H d = some (.frz o (.dT kvs))) (YItT kvs) :=
  ⟨fun _ _ hi q => ⟨q, hi⟩, fun _ q => ⟨q, Nat.le_refl _⟩, fun _ _ _ _ _ _ y => y⟩
end
end CN
namespace CN
open PySem PySem.Spec PyProof.Rows L2
/-- a tuple of targets in a comprehension -/
theorem pg_tupK {X : Cx} {pos : Pos} (K : PySem.W.Frag) {es : List Expr} {k : Nat} {t : TGs} (n : Nat) (hK : X.K = K) (hc : X.calm = true) (h : PGs X es t) (hl : (assignEach es X.env).length = n := by rfl)
    (hst : (assignEach es X.env).findIdx? (·.1) = none := by rfl) : PG X (.Tuple es k pos) (gTup K n t) := by
  subst hK
  exact pg_tup hc h hl hst
end CN
namespace CN
open PySem PySem.Spec PyProof.Rows L2
theorem ix_tupK {X : Cx} (K : PySem.W.Frag) (hK : X.K = K) : IxR X (rIxT K) := by
  subst hK
  exact ix_tup
theorem op_in_seqK {X : Cx} (K : PySem.W.Frag) (hK : X.K = K) : OpR X (compareOp .In) (rIn K false) := by
  subst hK
  exact op_in_seq
theorem op_notIn_seqK {X : Cx} (K : PySem.W.Frag) (hK : X.K = K) : OpR X (compareOp .NotIn) (rIn K true) := by
  subst hK
  exact op_notIn_seq
/-- a dict comprehension over a walk -/
theorem dc_it {J : It} {n : Nat} {G : Hp → Prop} {Y : Nat → Hp → V → Hp → Prop} (w : Walk J n G Y) {g : TG} {tt : TT} {tk tv : TE} {vs : List Nat} {σ : L2.St} {H1 : Hp} {D : Addr} {Qd : Hp → Prop} (Pv : Nat → Hp → Prop) (h0 : Pv 0 (upd H1 D (.dK []))) (hG : ∀ i H, i ≤ n → Pv i H → G H)
    (hs : ∀ i x H H', i < n → Pv i H → Y i H x H' → g x (wipe σ vs) H' fun σ2 H2 => wipe σ2 vs = wipe σ vs ∧ tt σ2 H2 fun b H3 =>
      if b = true then tk σ2 H3 fun y H4 => tv σ2 H4 fun z H5 => ∃ kvs k, y = kV k ∧ H5 D = some (.dK kvs) ∧ kvs.length < sizeLine ∧ Pv (i + 1) (upd H5 D (.dK (putK kvs k z))) else Pv (i + 1) H3) (hd : ∀ H, Pv n H → Qd H) :
    ∃ W : Nat → Nat → Hp → Prop, (∃ m, W 0 m (upd H1 D (.dK []))) ∧ ∀ i m H, W i m H →
      (J.stop i H ∧ Qd H) ∨ (J.go i H ∧ ∃ Nx : Hp → Prop, (∀ H', Nx H' → ∃ m', m' < m ∧ W (i + 1) m' H') ∧ ∀ x H', J.yld i H x H' → g x (wipe σ vs) H' fun σ2 H2 => wipe σ2 vs = wipe σ vs ∧ tt σ2 H2 fun b H3 =>
        if b = true then tk σ2 H3 fun y H4 => tv σ2 H4 fun z H5 => ∃ kvs k, y = kV k ∧ H5 D = some (.dK kvs) ∧ kvs.length < sizeLine ∧ Nx (upd H5 D (.dK (putK kvs k z))) else Nx H3) := by
  refine ⟨fun i m H => m = n - i ∧ i ≤ n ∧ Pv i H, ⟨n, by simp, Nat.zero_le _, h0⟩, ?_⟩
  rintro i m H ⟨rfl, hi, p⟩
  have q := hG i H hi p
  by_cases hlt : i < n
  · refine .inr ⟨w.goes i H hlt q, Pv (i + 1), fun H' p' => ⟨n - (i + 1), by omega, rfl, hlt, p'⟩, fun x H' y => hs i x H H' hlt p (w.yields i H x H' hlt q y)⟩
  · have e : i = n := by omega
    subst e
    exact .inl ⟨w.stops H q, hd H p⟩
end CN
namespace CN
open PySem PySem.Spec PyProof.Rows L2
/-- name = {..} on one line, the name a local -/
theorem ps_setDc {X : Cx} {i : Nat} {y : Str} {py : Pos} {kx vx tg iter : Expr} {ifs : List Expr} {scope : Scope} {own : List (Str × Nat)} {pos spos : Pos} {wi : TI} {g : TG} {tt : TT} {tk tv : TE} (hc : X.calm = true) (hN : X.N.Nodup) (hy : X.N[i]? = some y) (hyl : X.env.scope.names.lookup y = some .local)
    (hsw : swapsWith (.DictComp kx vx [⟨tg, iter, ifs, 0⟩] scope pos) (some (.Name y py)) spos.line X.env = pure true) (hi : PI X tg iter wi) (ok : BlkOk X.N X.env.scope scope own)
    (hg : ∀ (s : Shared) (H : Hp) (C : Addr) (cl : List (Str × Addr)) (fp : List Addr), PG (X.blk s H scope (compEnvC scope cl C X.env) fp) tg g) (ht : ∀ (s : Shared) (H : Hp) (C : Addr) (cl : List (Str × Addr)) (fp : List Addr), PTs (X.blk s H scope (compEnvC scope cl C X.env) fp) ifs tt)
    (hk : ∀ (s : Shared) (H : Hp) (C : Addr) (cl : List (Str × Addr)) (fp : List Addr), PE (X.blk s H scope (compEnvC scope cl C X.env) fp) kx tk)
    (he : ∀ (s : Shared) (H : Hp) (C : Addr) (cl : List (Str × Addr)) (fp : List Addr), PE (X.blk s H scope (compEnvC scope cl C X.env) fp) vx tv) (hs : ∀ x, foldedSetIterable iter X.env x = pure x := by intro _; rfl) :
    PS X (.Assign [.Name y py] (.DictComp kx vx [⟨tg, iter, ifs, 0⟩] scope pos) spos) (tAsg (tDc wi g tt tk tv (own.map (·.2))) (gName i)) := by
  refine ⟨fun pins s σ H D I h => ?_⟩
  rw [exec_Assign_Name_used _ _ _ _ hsw]
  refine wpAny_bind (wpAny_standAt (wpAny_bind ?_))
  show wpAny _ X.A (do let _ ← comprehension (.DictComp kx vx [⟨tg, iter, ifs, 0⟩] scope pos) scope X.env (firstIterPos [⟨tg, iter, ifs, 0⟩] pos) newDict false (eval iter X.env) (some (assign (.Name y py) X.env))) _ _ s
  have h : tDc wi g tt tk tv (own.map (·.2)) σ H (fun x H1 => gName i x σ H1 D.nx) := h
  refine wpAny_bind (thn (dc_core (Qf := fun _ s' => SP X pins D .next s') hc hN I hi ok hg ht hk he hs h fun L C s' m H' I' q hn f => ?_) fun _ s' hq => wpAny_pure (wpAny_pure hq))
  show wpAny _ _ (assign (.Name y py) X.env (.ref L)) _ _ _
  refine wpAny_assign_Name (store_ok2 (v := V.ref L) I' hN hy (.inl hyl) rfl (fun s2 I2 ⟨a, sb, ha⟩ => ?_) (.inr hyl))
  obtain ⟨f0, f1, f2, f3, f4, f5⟩ := f
  have haC : C ≠ a := by
    rcases ha with z | z
    · rw [z]; exact f1
    · exact fun e => f4 y a z e.symm
  refine ⟨m, hn.sameBut sb haC, fun h3 sb3 => ?_⟩
  exact ⟨_, H', I2.turned (t' := s2.toks) (fun b o hb e => (sb3.2 b hb).trans e) f0 f1 f3 f4 f5, q⟩
end CN
end
section
set_option Elab.async false
set_option linter.all false
set_option maxRecDepth 100000
set_option maxHeartbeats 4000000
/-! super().m(e, ..) in a def of a class -/
namespace CN
open PySem PySem.Spec PyProof.Rows L2 NdefX
abbrev nfS (x qual : Str) (st : Stmt) (cc cda : Addr) : NF := ⟨x, qual, defArgs st, defBody st, defScope st, [("__class__", cc)], cda⟩
/-- statements of a def's body, where super() may be said -/
def PSsA (X : Cx) (fb : List Stmt) (sts : List Stmt) (t : TS) : Prop := ∀ (pins : List (Addr × Obj)) (s : Shared) (σ : L2.St) (H : Hp) (D : Ends), Inv X pins σ H s → t D σ H →
  PySem.wpAt (model X.prog X.w) X.A (.func fb X.env) (execs sts X.env) (SP X pins D) X.xe s
section
variable {X : Cx} {fb rest : List Stmt} {st : Stmt} {t u : TS}
theorem psa_of (h : PSs X rest u) : PSsA X fb rest u := fun pins s σ H D I q => PySem.wpAt_of_wpAny (h.run pins s σ H D I q)
theorem psa_cons (h1 : PS X st t) (h2 : PSsA X fb rest u) : PSsA X fb (st :: rest) (tSeq t u) := fun pins s σ H D I q => by
  refine PySem.ks_wpAt_execs_cons (PySem.wpAt_mono (PySem.wpAt_of_wpAny (h1.run pins s σ H _ I q)) (fun f s' h => ?_) fun _ _ z => z)
  cases f with
  | next =>
    obtain ⟨σ', H', I', q'⟩ := h
    exact h2 pins s' σ' H' D I' q'
  | brk => exact h
  | cont => exact h
  | ret v => exact h
end
end CN
namespace CN
open PySem PySem.Spec PyProof.Rows L2 NdefX
/-- the frame of a def that says super(): D its class, f2 the def of m above D at instances of C -/
structure SupE (X : Cx) (D C f2 : Addr) (m : Str) (ar : Arg) : Prop where
  ks : X.env.kindOf "super" = some .globalImplicit
  kc : X.env.kindOf "__class__" = some .free
  sup : X.mg "super" = none
  fn : ∃ f fd oc od osl, X.env.func = some f ∧ X.K.lookup f = some ⟨oc, od, .func fd, osl⟩ ∧ (fd.params.posonlyargs ++ fd.params.args).head? = some ar
  code : ∃ cda ccl cdd vs ccs file tf, X.env.code = .ref cda ∧ X.K.lookup cda = some ⟨ccl, cdd, .fields vs, ccs⟩ ∧ vs[2]? = some (.str file tf) ∧ ((X.prog.main.file : Str) == file) = true
  cell : ∃ cc cl cld csl, X.env.cells.lookup ("__class__" : Str) = some cc ∧ X.K.lookup cc = some ⟨cl, cld, .cell (some (.ref D)), csl⟩
  top : (X.prog.main.scope.names.lookup ("super" : Str)).isSome = false
  cls : (PySem.W.clsIn X.K D).isSome = true
  sub : PySem.W.mroIn X.K C (.ref D) = some true
  meth : PySem.W.ks_superIn X.K C D m = some (some (.ref f2))
  typ : PySem.W.typeIn X.K (.ref f2) = some (.type "function")
  opq : PySem.W.nsIn X.K cStatics "thirdparty.any" = some none
  fi : PySem.W.fnIn X.K f2 = true
/-- super().m(e, ..): i the place of the first parameter -/
def tSup (C f2 : Addr) (i : Nat) (sp : Sp) (ta : TA) : TS := fun D σ H => ∃ x dx fs, σ[i]? = some (some (.ref x)) ∧ H x = some (.ins C dx fs) ∧
  ∀ q, H q = none → ta σ (upd H q (.met f2 x)) fun vs H1 => H1 q = some (.met f2 x) ∧ sp (.ref x :: vs) H1 (fun _ H2 => D.nx σ H2) E0
theorem psa_sup {X : Cx} {fb rest : List Stmt} {p0 p1 p2 p3 p4 : Pos} {m : Str} {e : Expr} {es : List Expr} {ta : TA} {u : TS} {D C f2 : Addr} {ar : Arg} {k i : Nat} {sp : Sp} {pl : Sem Bool} (S : SupE X D C f2 m ar) (F : FnR X.prog X.w X.K X.mg X.base CX0 k f2 sp) (hr : Room k X.A)
    (ha : PA X (e :: es) ta) (h2 : PSs X rest u) (hN : X.N[i]? = some ar.arg) (hk : X.env.kindOf ar.arg = some .local) (hm : (m == ("__class__" : Str)) = false) (hdb : (ar.arg == ("__debug__" : Str)) = false)
    (hs : starEach (e :: es) X.env = (false, eval e X.env) :: starEach es X.env := by rfl) (hpl : (backTo p3 (starEach es X.env)).any (·.1) = false := by rfl)
    (he : eval (.Call (.Attribute (.Call (.Name "super" p0) [] [] p1) m p2) (e :: es) [] p3) X.env = (do
        let ov ← attributeBase (.Call (.Name "super" p0) [] [] p1) m X.env (eval (.Call (.Name "super" p0) [] [] p1) X.env)
        standAt p2.atName
        let (f, first) ← holding [ov] (getMethod ov m pl)
        callWith p3 f first (backTo p3 (starEach (e :: es) X.env)) []) := by rfl)
    (hsw : swapsWith (.Call (.Attribute (.Call (.Name "super" p0) [] [] p1) m p2) (e :: es) [] p3) none p4.line X.env = pure false := by rfl) :
    PSsA X fb (.Expr (.Call (.Attribute (.Call (.Name "super" p0) [] [] p1) m p2) (e :: es) [] p3) p4 :: rest) (tSeq (tSup C f2 i sp ta) u) := by
  intro pins s σ H D' I q
  obtain ⟨x, dx, fs, eσ, ex, q⟩ := q
  obtain ⟨f, fd, oc, od, osl, hfu, hf, hp⟩ := S.fn
  obtain ⟨cda, ccl, cdd, vs, ccs, file, tf, hco, hcode, hvs, hfile⟩ := S.code
  obtain ⟨cc, cl, cld, csl, hcc, hcell⟩ := S.cell
  obtain ⟨oD, cdD, hD1, hD2⟩ : ∃ oD cdD, X.K.lookup D = some oD ∧ oD.data = .cls cdD := by
    have h := S.cls
    unfold PySem.W.clsIn at h
    split at h
    · rename_i c d cd' sl ho
      exact ⟨_, _, ho, rfl⟩
    · cases h
  have hx0 := I.hok x _ ex
  obtain ⟨_, _, _, hxo, _⟩ := id hx0
  obtain ⟨cdC, hcC⟩ : ∃ cd, PySem.W.clsIn X.K C = some cd := by
    have h := S.meth
    unfold PySem.W.ks_superIn at h
    cases z : PySem.W.clsIn X.K C with
    | none => rw [z] at h; cases h
    | some cd => exact ⟨cd, rfl⟩
  have hmeth : PySem.W.alongIn X.K m ((cdC.mro.dropWhile (· != .ref D)).drop 1) = some (some (.ref f2)) := by
    have h := S.meth
    unfold PySem.W.ks_superIn at h
    rw [hcC] at h
    exact h
  have hxC : x ≠ C := by
    rintro rfl
    unfold PySem.W.clsIn at hcC
    split at hcC
    · rename_i c d cd' sl ho
      have e := I.kIn _ _ ho
      rw [hxo] at e
      cases e
    · cases hcC
  obtain ⟨of, hof, hofc⟩ : ∃ of, X.K.lookup f2 = some of ∧ of.cls = .type "function" := by
    have ht' : (X.K.lookup f2).map (·.cls) = some (.type "function") := S.typ
    cases z : X.K.lookup f2 with
    | none => rw [z] at ht'; cases ht'
    | some of => rw [z] at ht'; exact ⟨of, rfl, Option.some.inj ht'⟩
  obtain ⟨mN, hn, hl⟩ := id I.loc
  obtain ⟨ux, rux, look⟩ := hl i ar.arg (.ref x) hN eσ (.inl hk)
  obtain rfl : ux = Value.ref x := rux
  have hmx : mN ar.arg = some (.ref x) := by
    rcases look with ⟨_, h⟩ | ⟨h, _⟩
    · exact h
    · rcases h with h | h
      · exact absurd (hk.symm.trans h) (by decide)
      · exact absurd (hk.symm.trans h) (by decide)
  obtain ⟨mb, hb1, hb2⟩ := I.mod.blt
  refine PySem.ks_wpAt_execs_cons (PySem.ks_wpAt_Expr_any (PySem.ks_wpAt_MethodCall (pl := pl) ?_ he) I.quiet hsw)
  obtain ⟨hh, g, d, t, os⟩ := s
  refine PySem.ks_wpAt_super_base (f := f) (cc := cda) S.ks S.kc hm hfu (I.kIn _ _ hf) rfl hp hco (I.kIn _ _ hcode) rfl hvs hfile S.top ?_
  refine PySem.W.ks_loadName_global I.ok.kind S.ks (Calls.loadGlobal_builtin (by rw [I.ok.glob]; exact I.mod.glob.keeps I.bk) S.sup (by rw [I.ok.blt]; exact hb1.keeps I.bk) ((hb2 _ (by decide +kernel)).trans (by rfl)) ⟨rfl, ?_⟩)
  refine wpAny_loadName_free I.ok.kind S.kc hcc ⟨_, I.kIn _ _ hcell, rfl⟩ ?_
  refine wpAny_loadName_local I.ok.kind hk hn hmx ?_
  refine PySem.ks_wpAny_isType_cls (I.kIn _ _ hD1) hD2 ⟨rfl, ?_⟩
  refine PySem.ks_wpAny_call_super (I.kIn _ _ hD1) hD2 hxo rfl (fun c e => nomatch e) (PySem.W.looks_mroIn I.kIn S.sub) (fun h' eso kp => ?_)
  have I1 : Inv X pins σ H ⟨h', g, d, t, os⟩ := I.kept (t' := t) kp
  refine PySem.ks_wpAny_getMethod_super eso (PySem.W.looks_opaque I1.kIn S.opq) (l₀ := cdC.mro) ?_ rfl I1.kIn hmeth (I1.kIn _ _ hof) hofc hxC hm ?_
  · exact fun A Q E s k q => wpAny_bind ((PySem.W.looks_clsIn I1.kIn hcC) A _ E s k (wpAny_pure q))
  have nq : H h'.objs.size = none := I1.hok.fresh (Nat.le_refl _)
  have I2 : Inv X pins σ (upd H h'.objs.size (.met f2 x)) ⟨h'.push { cls := .type "method", data := .fields #[.ref f2, .ref x] }, g, d, t + 1, os⟩ :=
    I1.laid (t' := t + 1) (a := h'.objs.size) (o := .met f2 x) (fun b u z => Heap.get?_push_of_some _ z) (Nat.le_refl _) (Heap.get?_push_at rfl rfl)
  have hrun := ha.run p3 pins _ σ _ _ I2 (q _ nq)
  show wpAny _ _ (callWith p3 (.ref h'.objs.size) [] (backTo p3 (starEach (e :: es) X.env)) []) _ _ _
  rw [hs] at hrun ⊢
  refine PySem.W.callWith_of (P := PySem.W.MethP X.K h'.objs.size f2 (.ref x)) (by show ((false || (backTo p3 (starEach es X.env)).any (·.1)) || false) = false; rw [hpl]; rfl) (PySem.W.keeps_M S.fi) (Calls.evalArgs_plain (thn hrun fun us s1 ⟨vs1, H1, I3, r1, em, q1⟩ => ?_))
  refine ⟨met_P I3 em, wpAny_call (call_met I3 em ?_)⟩
  refine codeAny_mono (run_fnR (us := Value.ref x :: us) (vs := V.ref x :: vs1) F hr pass0 I3 (.cons rfl r1) q1) fun r s2 hq => ?_
  cases r with
  | error er => exact hq
  | ok fl =>
    cases fl with
    | ret v =>
      obtain ⟨v1, H2, I4, _, q2⟩ := hq
      exact PySem.wpAt_of_wpAny (h2.run pins s2 σ H2 D' I4 q2)
    | next => exact hq.elim
    | brk => exact hq.elim
    | cont => exact hq.elim
end CN
namespace CN
open PySem PySem.Spec PyProof.Rows L2 NdefX
section
variable {P : Program} {w : World} {K : PySem.W.Frag} {mg : Str → Option Value} {base : Heap}
theorem PSsA.nox {X : Cx} {fb sts : List Stmt} {t : TS} (h : PSsA X.nox fb sts t) : PSsA X fb sts t := fun pins s σ H D I q =>
  PySem.wpAt_mono (h pins s σ H D (I.wish _) q) (fun f s' z => z.unwish) fun e s' z => z.elim
/-- a def that says super() -/
theorem fSup {N ps : List Str} {k : Nat} {sp : Sp} {x qual : Str} {st : Stmt} {C : Str} {f : Addr} (F : FunC K x qual st C f) (S : NScope N ps ["__class__"] (defScope st))
    (hb : ∀ (cc : Addr) (kV doc pm : Value) (an : Option Addr) (cdv ct : Value) (us : List Value), us.length = ps.length → bindArgs (PySem.W.fnX x qual (defArgs st) (defBody st) (defScope st) [("__class__", cc)] .none kV doc pm an cdv ct) ⟨us, []⟩ = pure (ps.zip us))
    (len : ∀ vs H Q E, sp vs H Q E → vs.length = ps.length)
    (hbody : ∀ (cc cda : Addr) (A : Around) (outer : List Env) (s : Shared) (H : Hp) (vs : List V) (Q : VK) (E : XK), Room k (A.deeper (envF (nfS x qual st cc cda) f s.heap.objs.size)) →
      (∃ fd oc od osl, K.lookup f = some ⟨oc, od, .func fd, osl⟩ ∧ fd.params = defArgs st) →
      (∃ ccl cdd vs ccs tf, K.lookup cda = some ⟨ccl, cdd, .fields vs, ccs⟩ ∧ vs[2]? = some (.str (Str.ofString "/claim/cut.py") tf)) →
      (∃ cl cld csl, K.lookup cc = some ⟨cl, cld, .cell (some (.ref (He.ga K C))), csl⟩) → sp vs H Q E →
      ∃ t, PSsA (ncx CX0 P w K mg base N (nfS x qual st cc cda) f A outer s H E).nox (defBody st) (defBody st) t ∧ t { nx := fun _ H' => Q .non H', rt := Q } (startF N vs [some (.ref (He.ga K C))]) H) :
    FnR P w K mg base CX0 (k + 1) f sp := by
  intro A outer s H us vs Q E hr e0 r hsp
  obtain ⟨oc, od, osl, cc, cda, kV, doc, pm, an, ct, lk, hcd, ⟨cl, cld, csl, hcell⟩, ccl, cdd, vs0, ccs, tf, hcode, hvs⟩ := F.ex
  have hl := len _ _ _ _ hsp
  have KX : K.In s.heap := e0.mod.kin.keeps fun b o e => (e0.bs b o e).1
  have lim : s.heap.NoLimit := e0.mod.nolimit.keeps fun b o e => (e0.bs b o e).1
  have hlu : us.length = ps.length := by rw [← r.length]; exact hl
  refine PySem.ks_codeAny_call_defAt (binds := ps.zip us) hr.depth (KX _ _ lk) rfl lim (PySem.W.codeRec_of KX hcd) rfl (.of_eq (hb cc kV doc pm an (.ref cda) ct us hlu)) S.nocell (fun ⟨n, _⟩ hy => S.par n (List.of_mem_zip hy).1) (fun h₀ hns kp => ?_) S.co S.gen S.kind
  obtain ⟨t, ht, hq⟩ := hbody cc cda A outer s H vs Q E (hr.deeper _) ⟨_, _, _, _, lk, rfl⟩ ⟨_, _, _, _, _, hcode, hvs⟩ ⟨_, _, _, hcell⟩ hsp
  have CA : CellsAt [(("__class__" : Str), cc)] ["__class__"] [some (.ref (He.ga K C))] s.heap H := by
    have hH : H cc = none := (e0.bs cc _ (e0.mod.kin _ _ hcell)).2
    have one : ∀ (y : Str) (c : Addr), List.lookup y [(("__class__" : Str), cc)] = some c → y = "__class__" ∧ c = cc := fun y c e => by
      rw [List.lookup_cons] at e
      split at e
      · rename_i h
        exact ⟨eq_of_beq h, (Option.some.inj e).symm⟩
      · cases e
    refine ⟨rfl, fun y c e => ?_, fun a b c e1 e2 => (one _ _ e1).1.trans (one _ _ e2).1.symm, fun i y e => ?_⟩
    · obtain ⟨_, rfl⟩ := one y c e
      exact ⟨hH, _, _, KX _ _ hcell, rfl⟩
    · match i, e with
      | 0, e =>
        obtain rfl : "__class__" = y := by simpa using e
        refine ⟨cc, by rw [List.lookup_cons]; simp, fun v hv => ?_⟩
        cases hv
        exact ⟨_, rfl, _, KX _ _ hcell, rfl⟩
      | i + 1, e => simp at e
  have I : Inv (ncx CX0 P w K mg base N (nfS x qual st cc cda) f A outer s H E) [] (startF N vs [some (.ref (He.ga K C))]) H { s with heap := h₀, toks := s.toks + (ps.zip us).length } := inv_startN (F := nfS x qual st cc cda) S hr.hd e0 hl r CA hns kp
  refine PySem.wpAt_mono (ht.nox [] _ _ H _ I hq) (fun fl s' hs => ?_) fun e s' hs => hs
  have fin : ∀ {σ' : L2.St} {H' : Hp} {v : V} {u : Value}, Inv (ncx CX0 P w K mg base N (nfS x qual st cc cda) f A outer s H E) [] σ' H' s' → L2.RelV v u → Q v H' → CE outer P w H s Q u s' :=
    fun {σ' H' v u} J rv q => ⟨v, H', J.os, J.bare, J.base, J.hok, rv, q⟩
  cases fl with
  | ret u =>
    obtain ⟨v, σ', H', J, rv, q⟩ := hs
    exact fin J rv q
  | next =>
    obtain ⟨σ', H', J, q⟩ := hs
    exact fin (v := V.non) (u := Value.none) J rfl q
  | brk =>
    obtain ⟨_, _, _, q⟩ := hs
    exact False.elim q
  | cont =>
    obtain ⟨_, _, _, q⟩ := hs
    exact False.elim q
end
end CN
namespace CN
open PySem PySem.Spec PyProof.Rows L2
section
variable {P : Program} {w : World} {K : PySem.W.Frag} {mg : Str → Option Value} {base : Heap} {x qual : Str} {params : Arguments} {body : List Stmt} {scope : Scope} {f : Addr} {fd : FuncData}
/-- a def (self, *, m=i), the keyword left out -/
theorem fK {N : List Str} {p m : Str} {i : Int} {k : Nat} {sp : Sp} (F : FunD K x qual params body scope [] [(m, .int i)] f fd) (S : FnScope N [p, m] scope)
    (hb : ∀ (D : Addr) (doc pm : Value) (an : Option Addr) (cdv ct : Value) (u v : Value), KwChain D [(m, v)] (bindArgs (PySem.W.fnOf x qual params body scope .none (.ref D) doc pm an cdv ct) ⟨[u], []⟩) [(p, u), (m, v)])
    (len : ∀ vs H Q E, sp vs H Q E → vs.length = 2)
    (hbody : ∀ (cdv : Value) (A : Around) (outer : List Env) (s : Shared) (H : Hp) (vs : List V) (Q : VK) (E : XK), Room k (A.deeper (envOfC qual scope s.heap.objs.size f cdv)) → sp vs H Q E →
      ∃ t, PSs (cxOf CX0 P w K mg base N qual scope f cdv A outer s H E).nox body t ∧ t { nx := fun _ H' => Q .non H', rt := Q } (start N vs) H) :
    FnR P w K mg base CX0 (k + 1) f (fun vs H Q E => sp (vs ++ [.int i]) H Q E) := by
  obtain ⟨ds, rv, hB⟩ := F.binds0 (ps := [p, m]) 1 (by simp) rfl (fun D doc pm an cdv ct us ks h1 h2 => by
    match us, ks, h1, h2 with
    | [u], [v], _, _ => exact hb D doc pm an cdv ct u v)
  have G := (F.ok (CX := CX0) S len (fun cdv A outer s H vs Q E hr h => by
    obtain ⟨t, h1, h2⟩ := hbody cdv A outer s H vs Q E hr h
    exact ⟨t, h1.nox, h2⟩)).raw hB rv
  exact G
end
end CN
namespace CN
open PySem PySem.Spec PyProof.Rows L2
theorem ix_listK {X : Cx} (K : PySem.W.Frag) (hK : X.K = K) : IxR X (rIxL K) := by
  subst hK
  exact ix_list
end CN
end
section
set_option Elab.async false
set_option linter.all false
set_option maxRecDepth 100000
set_option maxHeartbeats 4000000
namespace CN
open PySem PySem.Spec PyProof.Rows L2
local macro_rules | `(tactic| trivial) => `(tactic| exact Led.get (by assumption) 9)
local macro_rules | `(tactic| trivial) => `(tactic| exact Led.get (by assumption) 8)
local macro_rules | `(tactic| trivial) => `(tactic| exact Led.get (by assumption) 7)
local macro_rules | `(tactic| trivial) => `(tactic| exact Led.get (by assumption) 6)
local macro_rules | `(tactic| trivial) => `(tactic| exact Led.get (by assumption) 5)
local macro_rules | `(tactic| trivial) => `(tactic| exact Led.get (by assumption) 4)
local macro_rules | `(tactic| trivial) => `(tactic| exact Led.get (by assumption) 3)
local macro_rules | `(tactic| trivial) => `(tactic| exact Led.get (by assumption) 2)
local macro_rules | `(tactic| trivial) => `(tactic| exact Led.get (by assumption) 1)
local macro_rules | `(tactic| trivial) => `(tactic| exact Led.get (by assumption) 0)
section
variable {P : Program} {w : World} {K : PySem.W.Frag} {mg : Str → Option Value} {base : Heap}
theorem tyT {H : Hp} {a : Addr} {xs : List V} (h : SqT K H a xs) : TyX K H (.ref a) (.type "tuple") := by
  rcases h with (h | ⟨o, h⟩) | ⟨o, its, n, h1, h2, _⟩
  · exact .base (.tup h)
  · exact .fTuple h
  · exact .kTuple h1 h2
def sp_is_mirror_step (K : PySem.W.Frag) : Sp := fun vs H Q E => ∃ z, vs = [.str z] ∧ Q (.bl (lSTEPS.contains z)) H
theorem sc_is_mirror_step : FnScope ["thing"] ["thing"] (defScope s_is_mirror_step) := ⟨rfl, rfl, rfl, by decide +kernel, rfl, by decide +kernel, by decide +kernel⟩
theorem ok_is_mirror_step (T : TX w K mg) : FnR P w K mg base CX0 1 (a_is_mirror_step K) (sp_is_mirror_step K) := by
  obtain ⟨fd, F⟩ := T.fn 21 rfl rfl
  refine fR F sc_is_mirror_step (fun _ _ _ _ _ _ us hl => match us, hl with | [_], _ => rfl) (fun vs H Q E h => ?_) (fun cdv A outer s H vs Q E hr h => ?_)
  · obtain ⟨z, rfl, k⟩ := h
    rfl
  · obtain ⟨z, rfl, k⟩ := h
    refine ⟨_, (pss_one (ps_ret (pe_and (pe_callB call_isi (by rfl) (T.free "isinstance") (by decide +kernel) (pa_cons (pv 0) (pa_cons (pe_bltn (v := .ty "str") (by rfl) (T.free "str") (by decide +kernel) rfl) pa_nil))) (pe_one (pe_cmpR op_in_seq (pv 0) (pe_gref rfl (T.ref "STEPS")) (by rfl)))))), ?_⟩
    rw [← inV_strs] at k
    exact ⟨_, rfl, _, _, _, _, true, rfl, .ty "str", .base (.str _), kit_same _, true, rfl, _, rfl, _, _, rfl, .inr (T.stps H), rfl, by rfl, k⟩
def sp_are_nodes (K : PySem.W.Frag) : Sp := fun vs H Q E => ∃ a nds, vs = [.ref a, .ref (a_is_mirror_step K)] ∧ NodesT K H a nds ∧ OkNds nds ∧ Q (.bl true) H
theorem sc_are_nodes : FnScope ["thing", "is_step", "node", "edge"] ["thing", "is_step"] (defScope s_are_nodes) := ⟨rfl, rfl, rfl, by decide +kernel, rfl, by decide +kernel, by decide +kernel⟩
theorem ok_are_nodes (T : TX w K mg) : FnR P w K mg base CX0 2 (a_are_nodes K) (sp_are_nodes K) := by
  obtain ⟨fd, F⟩ := T.fn 13 rfl rfl
  refine fR F sc_are_nodes (fun _ _ _ _ _ _ us hl => match us, hl with | [_, _], _ => rfl) (fun vs H Q E h => ?_) (fun cdv A outer s H vs Q E hr h => ?_)
  · obtain ⟨a, nds, rfl, ⟨xs, ha, hp⟩, ⟨h1, h5, hn⟩, k⟩ := h
    rfl
  · obtain ⟨a, nds, rfl, ⟨xs, ha, hp⟩, ⟨h1, h5, hn⟩, k⟩ := h
    refine ⟨_, (pss_cons (ps_if (PW.pt (pw_or (pt_not (pt_val (pe_callB call_isi (by rfl) (T.free "isinstance") (by decide +kernel) (pa_cons (pv 0) (pa_cons (pe_bltn (v := .ty "tuple") (by rfl) (T.free "tuple") (by decide +kernel) rfl) pa_nil))))) (pw_or1 (pt_not (pt_chain op_le op_le pe_int (pe_callB call_len_seq (by rfl) (T.free "len") (by decide +kernel) (pa_cons (pv 0) pa_nil)) (pe_gint rfl (T.gint "MOST_NODES" (6))))))))
        (pss_one (ps_ret pe_bl))
        pss_nil)
      (pss_cons (ps_for PassesOwn.never rfl (pi_tup (pv 0)) (pgn 2 sc_are_nodes.nd)
        (pss_cons (ps_if (PW.pt (pw_or (pt_not (pt_val (pe_callB call_isi (by rfl) (T.free "isinstance") (by decide +kernel) (pa_cons (pv 2) (pa_cons (pe_bltn (v := .ty "tuple") (by rfl) (T.free "tuple") (by decide +kernel) rfl) pa_nil))))) (pw_or1 (pt_cmpR op_gt (pe_callB call_len_seq (by rfl) (T.free "len") (by decide +kernel) (pa_cons (pv 2) pa_nil)) (pe_gint rfl (T.gint "MOST_EDGES" (3))) (nomark _)))))
          (pss_one (ps_ret pe_bl))
          pss_nil)
        (pss_one (ps_for PassesOwn.never rfl (pi_tup (pv 2)) (pgn 3 sc_are_nodes.nd)
          (pss_cons (ps_if (PW.pt (pw_or (pt_not (pt_val (pe_callB call_isi (by rfl) (T.free "isinstance") (by decide +kernel) (pa_cons (pv 3) (pa_cons (pe_bltn (v := .ty "tuple") (by rfl) (T.free "tuple") (by decide +kernel) rfl) pa_nil))))) (pw_or (pt_cmpR op_ne (pe_callB call_len_seq (by rfl) (T.free "len") (by decide +kernel) (pa_cons (pv 3) pa_nil)) pe_int (nomark _)) (pw_or1 (pt_not (pt_val (pe_cv (i := 1) (ok_is_mirror_step T) (hr.mono (by decide)) (T.gf "is_mirror_step").kp (pa_cons (pe_ix ix_tup (pv 3) pe_int (fun _ _ => rfl)) pa_nil))))))))
            (pss_one (ps_ret pe_bl))
            pss_nil)
          (pss_one (ps_if (pt_not (pt_val (pe_cf (ok_is_between T) (hr.mono (by decide)) (by rfl) (T.gf "is_between") (pa_cons (pe_ix ix_tup (pv 3) pe_int (fun _ _ => rfl)) (pa_cons pe_int (pa_cons (pe_op op_sub (pe_callB call_len_seq (by rfl) (T.free "len") (by decide +kernel) (pa_cons (pv 0) pa_nil)) pe_int) pa_nil))))))
            (pss_one (ps_ret pe_bl))
            pss_nil)))))))
      (pss_one (ps_ret pe_bl)))), ?_⟩
    have hl : xs.length = nds.length := Paired.length hp
    refine ⟨_, rfl, _, _, _, _, true, rfl, .ty "tuple", tyT ha, kit_same _, true, rfl, _, rfl, _, _, rfl, .inr ha, _, _, rfl, rfl, true, congrArg V.bl (decide_eq_true (by omega)), _, _, rfl, rfl, true, congrArg V.bl (decide_eq_true (by omega)), ?_⟩
    refine ⟨_, rfl, a, rfl, ⟨_, ha⟩, for_it (walk_tup (xs := xs)) (fun i σ H' => (∃ u2 u3, σ = [some (.ref a), some (.ref (a_is_mirror_step K)), u2, u3]) ∧ H' = H) ⟨⟨_, _, rfl⟩, rfl⟩ ?_ ?_ ?_⟩
    · rintro i σ H' _ ⟨_, rfl⟩
      exact ha
    · rintro i x σ H1 H2 hi ⟨⟨u2, u3, rfl⟩, rfl⟩ ⟨rfl, hx⟩
      have hi2 : i < nds.length := by omega
      obtain ⟨x', e1, nd, ys, rfl, e2, e3⟩ := Paired.at hp (List.getElem?_eq_getElem hi2)
      rw [hx] at e1
      cases e1
      obtain ⟨hle, hes⟩ := hn _ (List.getElem_mem hi2)
      have hl2 : ys.length = nds[i].length := Paired.length e3
      refine ⟨_, rfl, _, _, _, _, true, rfl, .ty "tuple", tyT e2, kit_same _, true, rfl, _, rfl, _, _, rfl, .inr e2, _, _, rfl, rfl, false, congrArg V.bl (decide_eq_false (by omega)), ?_⟩
      refine ⟨_, rfl, nd, rfl, ⟨_, e2⟩, for_it (walk_tup (xs := ys)) (fun j σ H' => (∃ u3, σ = [some (.ref a), some (.ref (a_is_mirror_step K)), some (.ref nd), u3]) ∧ H' = H2) ⟨⟨_, rfl⟩, rfl⟩ ?_ ?_ ?_⟩
      · rintro j σ H' _ ⟨_, rfl⟩
        exact e2
      · rintro j y σ H3 H4 hj ⟨⟨u3, rfl⟩, rfl⟩ ⟨rfl, hy⟩
        have hj2 : j < nds[i].length := by omega
        obtain ⟨y', g1, ed, rfl, g2⟩ := Paired.at e3 (List.getElem?_eq_getElem hj2)
        rw [hy] at g1
        cases g1
        obtain ⟨q1, q2⟩ := hes _ (List.getElem_mem hj2)
        refine ⟨_, rfl, _, _, _, _, true, rfl, .ty "tuple", tyT g2, kit_same _, true, rfl, _, rfl, _, _, rfl, .inr g2, rfl, false, congrArg (fun b => V.bl (!b)) (decide_eq_true rfl), ?_⟩
        refine ⟨rfl, _, rfl, _, _, _, _, rfl, rfl, g2, rfl, _, rfl, true, congrArg V.bl (List.contains_iff_mem.mpr q1), ?_⟩
        refine ⟨_, rfl, _, _, _, _, rfl, rfl, g2, rfl, _, rfl, _, _, rfl, .inr ha, _, _, rfl, rfl, _, _, _, rfl, true, congrArg V.bl (decide_eq_true (by omega)), ?_⟩
        exact ⟨⟨_, rfl⟩, rfl⟩
      · rintro σ H3 ⟨⟨u3, rfl⟩, rfl⟩
        exact ⟨⟨_, _, rfl⟩, rfl⟩
    · rintro σ H1 ⟨⟨u2, u3, rfl⟩, rfl⟩
      exact k
theorem walk_zipT {a b : Addr} {xs ys : List V} {n : Nat} (hn : n = min xs.length ys.length) : Walk (RZ.ItzT K a b) n (fun H => SqT K H a xs ∧ SqT K H b ys) (YPair (fun i => xs[i]?) (fun i => ys[i]?)) := by
  subst hn
  refine ⟨fun i _ hi q => ?_, fun _ q => ⟨xs, ys, q.1, q.2, by omega⟩, fun i H v H' _ q y => ?_⟩
  · have h1 : i < xs.length := by omega
    have h2 : i < ys.length := by omega
    exact ⟨xs, ys, xs[i], ys[i], q.1, q.2, by simp [h1], by simp [h2]⟩
  · obtain ⟨T, x, z, h1, h2, h3, h4, h5⟩ := y
    exact ⟨T, x, z, h1, h2, h3, h4 xs q.1, h5 ys q.2⟩
def fV (fs : List Nat) : List V := List.map (fun j : Nat => V.int (j : Int)) fs
theorem trues {H1 H : Hp} {A : Addr} {α : Type} {xs : List α} (p : LcI H1 A xs (fun _ => [V.bl true]) xs.length H) : SqL K H A (List.map V.bl (List.replicate xs.length true)) := by
  have e := p.all
  rw [flat_one, List.map_const'] at e
  rw [List.map_replicate]
  exact .of e
theorem trues_all (n : Nat) : (List.replicate n true).all id = true := by simp
def sp_are_finals (K : PySem.W.Frag) : Sp := fun vs H Q E => ∃ a fs n, vs = [.ref a, .int ((n : Nat) : Int)] ∧ SqT K H a (fV fs) ∧ fs.Pairwise (· < ·) ∧ (∀ j ∈ fs, j < n) ∧ fs.length < 1000 ∧ ∀ H', Same H H' → Q (.bl true) H'
theorem sc_are_finals : FnScope ["thing", "many", "one", "other"] ["thing", "many"] (defScope s_are_finals) := ⟨rfl, rfl, rfl, by decide +kernel, rfl, by decide +kernel, by decide +kernel⟩
theorem ok_are_finals (T : TX w K mg) : FnR P w K mg base CX0 2 (a_are_finals K) (sp_are_finals K) := by
  obtain ⟨fd, F⟩ := T.fn 14 rfl rfl
  refine fR F sc_are_finals (fun _ _ _ _ _ _ us hl => match us, hl with | [_, _], _ => rfl) (fun vs H Q E h => ?_) (fun cdv A outer s H vs Q E hr h => ?_)
  · obtain ⟨a, fs, n, rfl, ha, hw, hj, hl, k⟩ := h
    rfl
  · obtain ⟨a, fs, n, rfl, ha, hw, hj, hl, k⟩ := h
    refine ⟨_, (pss_cons (ps_if (PW.pt (pw_or (pt_not (pt_val (pe_callB call_isi (by rfl) (T.free "isinstance") (by decide +kernel) (pa_cons (pv 0) (pa_cons (pe_bltn (v := .ty "tuple") (by rfl) (T.free "tuple") (by decide +kernel) rfl) pa_nil))))) (pw_or1 (pt_not (pt_val (pe_callB (cr_all rfl) (by rfl) (T.free "all") (by decide +kernel) (pa_cons (pe_lc (own := [("one", 2)]) rfl sc_are_finals.nd (pi_tup (pv 0)) (blkN sc_are_finals) (fun _ _ _ _ _ => pgn 2 sc_are_finals.nd) (fun _ _ _ _ _ => pts_nil) (fun _ _ _ _ _ => pe_cf (ok_is_between T) (hr.mono (by decide)) (by rfl) (T.gf "is_between") (pa_cons (pv 2) (pa_cons pe_int (pa_cons (pe_op op_sub (pv 1) pe_int) pa_nil))))) pa_nil)))))))
        (pss_one (ps_ret pe_bl))
        pss_nil)
      (pss_one (ps_ret (pe_callB (cr_all rfl) (by rfl) (T.free "all") (by decide +kernel) (pa_cons (pe_lc (own := [("one", 2), ("other", 3)]) rfl sc_are_finals.nd (RZ.pi_zipA rfl (T.free "zip") (pa_cons (pv 0) (pa_cons (pe_slice sl_tupA (pv 0) (po_some pe_int) po_none) pa_nil))) (blkN sc_are_finals) (fun _ _ _ _ _ => pg_tupK K 2 rfl rfl (pgs_cons (pgn 2 sc_are_finals.nd) (pgs_cons (pgn 3 sc_are_finals.nd) pgs_nil))) (fun _ _ _ _ _ => pts_nil) (fun _ _ _ _ _ => pe_cmpR op_lt (pv 2) (pv 3) (nomark _))) pa_nil))))), ?_⟩
    refine ⟨_, rfl, _, _, _, _, true, rfl, .ty "tuple", tyT ha, kit_same _, true, rfl, ?_⟩
    refine ⟨_, rfl, a, rfl, ⟨_, ha⟩, fun A hA => lc_it (walk_tup (xs := fV fs)) (LcI H A (fV fs) (fun _ => [V.bl true])) (LcI.zero hA) (fun _ _ _ p => Same.tup p.s ha) ?_ ?_⟩
    · rintro i x H1 H2 hi p ⟨rfl, hx⟩
      obtain ⟨j, hj', rfl⟩ := get_map hx
      have hjn := hj j (List.mem_of_getElem? hj')
      refine ⟨rfl, _, rfl, _, rfl, _, _, rfl, rfl, _, _, _, rfl, ?_⟩
      rw [decide_eq_true (show (0 : Int) ≤ j ∧ (j : Int) ≤ n - 1 by omega)]
      exact p.push hA hx (fun _ _ e => e) rfl (flat_lt (fun _ => Nat.le_refl _) (by rw [fV, List.length_map, line_eq]; omega))
    · intro H1 p
      refine ⟨_, _, rfl, trues p, true, congrArg V.bl (trues_all _), ?_⟩
      have ha := Same.tup p.s ha
      have k := fun H' s => k H' (p.s.trans s)
      refine ⟨_, rfl, _, rfl, _, rfl, _, _, rfl, ha, fun hwh => ?_, fun hnw b hb => ?_⟩
      · have h1 := hwh.1
        have hlen : fs = [] := by
          rw [show HT.sIx (fV fs).length 0 (some 1) = min 1 (fV fs).length from HT.sIx_nat _ _ 1] at h1
          rw [fV, List.length_map] at h1
          cases fs with
          | nil => rfl
          | cons x r =>
            rw [List.length_cons] at h1
            omega
        subst hlen
        refine ⟨a, a, _, _, rfl, .inr ⟨ha, ha, fun A2 hA2 => lc_it (walk_zipT (n := 0) rfl) (LcI H1 A2 ([] : List V) (fun _ => [V.bl true])) (LcI.zero hA2) (fun _ _ _ p => ⟨Same.tup p.s ha, Same.tup p.s ha⟩) ?_ ?_⟩⟩
        · intro i x H2 H3 hi
          exact absurd hi (Nat.not_lt_zero _)
        · intro H2 p2
          refine ⟨_, _, rfl, trues (xs := ([] : List V)) p2, ?_⟩
          exact k _ p2.s
      · have ec : cutV (fV fs) (some 1) none = fV (fs.drop 1) := by
          unfold cutV
          rw [show HT.sIx (fV fs).length 0 (some 1) = min 1 (fV fs).length from HT.sIx_nat _ _ 1]
          rw [show HT.sIx (fV fs).length (fV fs).length none = (fV fs).length from rfl]
          rw [fV, List.length_map, fV, ← List.map_drop, ← List.map_take]
          congr 1
          cases fs with
          | nil => rfl
          | cons x r => simp
        rw [ec]
        have hb' : SqT K (upd H1 b (.tup (fV (fs.drop 1)))) b (fV (fs.drop 1)) := .of upd_same
        have sb := Same.new (o := .tup (fV (fs.drop 1))) hb
        have ha' := Same.tup sb ha
        refine ⟨a, b, _, _, rfl, .inr ⟨ha', hb', fun A2 hA2 => lc_it (walk_zipT (n := fs.length - 1) (by rw [fV, fV, List.length_map, List.length_map, List.length_drop]; omega)) (LcI (upd H1 b (.tup (fV (fs.drop 1)))) A2 (List.range (fs.length - 1)) (fun _ => [V.bl true])) (LcI.zero hA2) (fun _ _ _ p => ⟨Same.tup p.s ha', Same.tup p.s hb'⟩) ?_ ?_⟩⟩
        · rintro i x H2 H3 hi p2 ⟨T', y, z, rfl, nT, rfl, hy, hz⟩
          obtain ⟨j, hj1, rfl⟩ := get_map hy
          obtain ⟨j2, hj2, rfl⟩ := get_map hz
          rw [List.getElem?_drop] at hj2
          have hlt : j < j2 := by
            obtain ⟨q1, e1⟩ := List.getElem?_eq_some_iff.mp hj1
            obtain ⟨q2, e2⟩ := List.getElem?_eq_some_iff.mp hj2
            rw [← e1, ← e2]
            exact List.pairwise_iff_getElem.mp hw i (1 + i) q1 q2 (by omega)
          refine ⟨_, _, rfl, .of upd_same, rfl, _, _, rfl, _, _, rfl, rfl, rfl, _, rfl, _, rfl, _, _, rfl, rfl, ?_⟩
          exact p2.push hA2 (x := i) (by simp [hi]) (Same.new nT) (congrArg (fun b => [V.bl b]) (decide_eq_true (show ((j : Nat) : Int) < (j2 : Nat) by omega)).symm) (flat_lt (fun _ => Nat.le_refl _) (by rw [List.length_range, line_eq]; omega))
        · intro H2 p2
          have p3 : LcI (upd H1 b (.tup (fV (fs.drop 1)))) A2 (List.range (fs.length - 1)) (fun _ => [V.bl true]) (List.range (fs.length - 1)).length H2 := by
            rw [List.length_range]
            exact p2
          refine ⟨_, _, rfl, trues p3, ?_⟩
          rw [trues_all]
          exact k _ (sb.trans p2.s)
def sp_Graph___init__ (K : PySem.W.Frag) : Sp := fun vs H Q E => ∃ g dx n f, vs = [.ref g, n, f] ∧ H g = some (.ins (He.ga K "Mirror") dx []) ∧ ∀ H', Fr [g] H H' → H' g = some (.ins (He.ga K "Mirror") dx [("nodes", n), ("finals", f)]) → Q .non H'
theorem sc_Graph___init__ : FnScope ["self", "nodes", "finals"] ["self", "nodes", "finals"] (defScope s_Graph___init__) := ⟨rfl, rfl, rfl, by decide +kernel, rfl, by decide +kernel, by decide +kernel⟩
theorem ok_Graph___init__ (T : TX w K mg) : FnR P w K mg base CX0 1 (a_Graph___init__ K) (sp_Graph___init__ K) := by
  obtain ⟨fd, F⟩ := T.fn 15 rfl rfl
  refine fR F sc_Graph___init__ (fun _ _ _ _ _ _ us hl => match us, hl with | [_, _, _], _ => rfl) (fun vs H Q E h => ?_) (fun cdv A outer s H vs Q E hr h => ?_)
  · obtain ⟨g, dx, n, f, rfl, hg, k⟩ := h
    rfl
  · obtain ⟨g, dx, n, f, rfl, hg, k⟩ := h
    refine ⟨_, (pss_cons (ps_fd (T.cls "Mirror") (T.na "Mirror" "nodes") (pv 0) (pv 1))
      (pss_one (ps_fd (T.cls "Mirror") (T.na "Mirror" "finals") (pv 0) (pv 2)))), ?_⟩
    exact ⟨_, rfl, _, rfl, g, dx, [], _, rfl, hg, rfl, by decide, _, rfl, _, rfl, g, dx, _, _, rfl, upd_same, rfl, lt_b rfl, k _ ((Fr.upd (.head _)).trans (Fr.upd (.head _))) upd_same⟩
def sp_Question___init__ (K : PySem.W.Frag) : Sp := fun vs H Q E => ∃ q dx m, vs = [.ref q, m] ∧ H q = some (.ins (He.ga K "Stale") dx []) ∧ ∀ H', Fr [q] H H' → H' q = some (.ins (He.ga K "Stale") dx [("graph", m)]) → Q .non H'
theorem sc_Question___init__ : FnScope ["self", "graph"] ["self", "graph"] (defScope s_Question___init__) := ⟨rfl, rfl, rfl, by decide +kernel, rfl, by decide +kernel, by decide +kernel⟩
theorem ok_Question___init__ (T : TX w K mg) : FnR P w K mg base CX0 1 (a_Question___init__ K) (sp_Question___init__ K) := by
  obtain ⟨fd, F⟩ := T.fn 17 rfl rfl
  refine fR F sc_Question___init__ (fun _ _ _ _ _ _ us hl => match us, hl with | [_, _], _ => rfl) (fun vs H Q E h => ?_) (fun cdv A outer s H vs Q E hr h => ?_)
  · obtain ⟨q, dx, m, rfl, hq, k⟩ := h
    rfl
  · obtain ⟨q, dx, m, rfl, hq, k⟩ := h
    refine ⟨_, (pss_one (ps_fd (T.cls "Stale") (T.na "Stale" "graph") (pv 0) (pv 1))), ?_⟩
    exact ⟨_, rfl, _, rfl, q, dx, [], _, rfl, hq, rfl, by decide, k _ (Fr.upd (.head _)) upd_same⟩
abbrev S6 : Type := Nat × I3 × I2
def k6 (s : S6) : List Key := [.inl (s.1 : Int), .inl s.2.1.1, .inl s.2.1.2.1, .inl s.2.1.2.2, .inl s.2.2.1, .inl s.2.2.2]
def v6 (s : S6) : List V := [.int (s.1 : Int), .int s.2.1.1, .int s.2.1.2.1, .int s.2.1.2.2, .int s.2.2.1, .int s.2.2.2]
theorem k6_v6 (s : S6) : List.map kV (k6 s) = v6 s := rfl
def s0 : S6 := (0, (0, 0, 0), (0, 0))
def stepsOf (nds : Nds) : Nat → List Int → Option (List Str)
  | _, [] => some []
  | n, l :: r => (edgeAt nds n l).bind fun e => (stepsOf nds e.2 r).map (e.1 :: ·)
def Mir (K : PySem.W.Frag) (H : Hp) (m N F : Addr) : Prop := ∃ dx, H m = some (.ins (He.ga K "Mirror") dx [("nodes", .ref N), ("finals", .ref F)])
def sp_Question_first (K : PySem.W.Frag) : Sp := fun vs H Q E => ∃ q, vs = [.ref q] ∧ ∀ r, H r = none → Q (.ref r) (upd H r (.tup (v6 s0)))
theorem sc_Question_first : FnScope ["self"] ["self"] (defScope s_Question_first) := ⟨rfl, rfl, rfl, by decide +kernel, rfl, by decide +kernel, by decide +kernel⟩
theorem ok_Question_first (T : TX w K mg) : FnR P w K mg base CX0 1 (a_Question_first K) (sp_Question_first K) := by
  obtain ⟨fd, F⟩ := T.fn 18 rfl rfl
  refine fR F sc_Question_first (fun _ _ _ _ _ _ us hl => match us, hl with | [_], _ => rfl) (fun vs H Q E h => ?_) (fun cdv A outer s H vs Q E hr h => ?_)
  · obtain ⟨q, rfl, k⟩ := h
    rfl
  · obtain ⟨q, rfl, k⟩ := h
    refine ⟨_, (pss_one (ps_ret (pe_tup (pa_cons pe_int (pa_cons pe_int (pa_cons pe_int (pa_cons pe_int (pa_cons pe_int (pa_cons pe_int pa_nil))))))))), ?_⟩
    exact ⟨ll rfl, fun r hr => k r hr⟩
def sp_Stale_is_bad (K : PySem.W.Frag) : Sp := fun vs H Q E => ∃ q m N F a fs st, vs = [.ref q, .ref a] ∧ IsStale K H q m ∧ Mir K H m N F ∧ SqT K H F (fV fs) ∧ SqT K H a (v6 st) ∧ Q (.bl (decide (st.1 ∈ fs ∧ st.2.1.1 = 0 ∧ st.2.2.1 = 0 ∧ st.2.2.2 = 0))) H
theorem sc_Stale_is_bad : FnScope ["self", "state", "node", "snapshot", "pending", "listens", "right", "waits"] ["self", "state"] (defScope s_Stale_is_bad) := ⟨rfl, rfl, rfl, by decide +kernel, rfl, by decide +kernel, by decide +kernel⟩
theorem ok_Stale_is_bad (T : TX w K mg) : FnR P w K mg base CX0 1 (a_Stale_is_bad K) (sp_Stale_is_bad K) := by
  obtain ⟨fd, F⟩ := T.fn 34 rfl rfl
  refine fR F sc_Stale_is_bad (fun _ _ _ _ _ _ us hl => match us, hl with | [_, _], _ => rfl) (fun vs H Q E h => ?_) (fun cdv A outer s H vs Q E hr h => ?_)
  · obtain ⟨q, m, N, F, a, fs, st, rfl, ⟨dq, hq⟩, ⟨dm, hm⟩, hF, ha, k⟩ := h
    rfl
  · obtain ⟨q, m, N, F, a, fs, st, rfl, ⟨dq, hq⟩, ⟨dm, hm⟩, hF, ha, k⟩ := h
    refine ⟨_, (pss_cons (ps_asg (pv 1) (pg_tup rfl (pgs_cons (pgn 2 sc_Stale_is_bad.nd) (pgs_cons (pgn 3 sc_Stale_is_bad.nd) (pgs_cons (pgn 4 sc_Stale_is_bad.nd) (pgs_cons (pgn 5 sc_Stale_is_bad.nd) (pgs_cons (pgn 6 sc_Stale_is_bad.nd) (pgs_cons (pgn 7 sc_Stale_is_bad.nd) pgs_nil))))))))
      (pss_one (ps_ret (pe_and (pe_cmpR op_in_seq (pv 2) (pe_fd (T.cls "Mirror") (T.na "Mirror" "finals") (pe_fd (T.cls "Stale") (T.na "Stale" "graph") (pv 0))) (by rfl)) (pe_and (pe_cmpR op_eq (pv 3) pe_int (nomark _)) (pe_and (pe_cmpR op_eq (pv 6) pe_int (nomark _)) (pe_one (pe_cmpR op_eq (pv 7) pe_int (nomark _))))))))), ?_⟩
    refine ⟨_, rfl, _, _, rfl, ha, rfl, _, _, rfl, _, _, rfl, _, _, rfl, _, _, rfl, _, _, rfl, _, _, rfl, rfl, ?_⟩
    refine ⟨_, rfl, _, rfl, _, _, _, _, rfl, hq, rfl, _, _, _, _, rfl, hm, rfl, _, _, rfl, .inr hF, rfl, ?_, _, rfl, ?_⟩
    · rw [fV, List.all_map]
      exact List.all_eq_true.mpr fun _ _ => rfl
    have ein : inV (.int ((st.1 : Nat) : Int)) (fV fs) = decide (st.1 ∈ fs) := by
      unfold inV fV
      rw [List.any_map, Bool.eq_iff_iff, List.any_eq_true, decide_eq_true_iff]
      constructor
      · rintro ⟨j, h1, h2⟩
        have h3 : ((j : Nat) : Int) = (st.1 : Int) := eq_of_beq (show (((j : Nat) : Int) == (st.1 : Int)) = true from h2)
        have h4 : j = st.1 := by omega
        rwa [h4] at h1
      · intro h
        exact ⟨st.1, h, (beq_self_eq_true (st.1 : Int) : ((st.1 : Int) == (st.1 : Int)) = true)⟩
    show ite (inV (.int ((st.1 : Nat) : Int)) (fV fs) = true) _ _
    rw [ein]
    by_cases h1 : st.1 ∈ fs
    · rw [if_pos (decide_eq_true h1)]
      refine ⟨_, rfl, rfl, _, rfl, ?_⟩
      by_cases h2 : st.2.1.1 = 0
      · rw [iT h2]
        refine ⟨_, rfl, rfl, _, rfl, ?_⟩
        by_cases h3 : st.2.2.1 = 0
        · rw [iT h3]
          refine ⟨_, rfl, rfl, ?_⟩
          have e : decide (V.int st.2.2.2 = V.int 0) = decide (st.1 ∈ fs ∧ st.2.1.1 = 0 ∧ st.2.2.1 = 0 ∧ st.2.2.2 = 0) := by
            rw [Bool.eq_iff_iff, decide_eq_true_iff, decide_eq_true_iff]
            exact ⟨fun h => ⟨h1, h2, h3, by injection h⟩, fun h => congrArg V.int h.2.2.2⟩
          rw [← e] at k
          exact k
        · rw [iF h3]
          rw [decide_eq_false (fun h => h3 h.2.2.1)] at k
          exact k
      · rw [iF h2]
        rw [decide_eq_false (fun h => h2 h.2.1)] at k
        exact k
    · rw [if_neg (by rw [decide_eq_false h1]; decide)]
      rw [decide_eq_false (fun h => h1 h.1)] at k
      exact k
    
end
end CN
end
section
set_option Elab.async false
set_option linter.all false
set_option maxRecDepth 100000
set_option maxHeartbeats 4000000
namespace CN
open PySem PySem.Spec PyProof.Rows L2
local macro_rules | `(tactic| trivial) => `(tactic| exact Led.get (by assumption) 9)
local macro_rules | `(tactic| trivial) => `(tactic| exact Led.get (by assumption) 8)
local macro_rules | `(tactic| trivial) => `(tactic| exact Led.get (by assumption) 7)
local macro_rules | `(tactic| trivial) => `(tactic| exact Led.get (by assumption) 6)
local macro_rules | `(tactic| trivial) => `(tactic| exact Led.get (by assumption) 5)
local macro_rules | `(tactic| trivial) => `(tactic| exact Led.get (by assumption) 4)
local macro_rules | `(tactic| trivial) => `(tactic| exact Led.get (by assumption) 3)
local macro_rules | `(tactic| trivial) => `(tactic| exact Led.get (by assumption) 2)
local macro_rules | `(tactic| trivial) => `(tactic| exact Led.get (by assumption) 1)
local macro_rules | `(tactic| trivial) => `(tactic| exact Led.get (by assumption) 0)
section
variable {P : Program} {w : World} {K : PySem.W.Frag} {mg : Str → Option Value} {base : Heap}
def sp_Graph_followed (K : PySem.W.Frag) : Sp := fun vs H Q E => ∃ m N F b nds run zs, vs = [.ref m, .ref b, .bl true] ∧ Mir K H m N F ∧ NodesT K H N nds ∧ SqT K H b (List.map V.int run) ∧ run.length < 1000 ∧ stepsOf nds 0 run = some zs ∧ ∀ H' r, Same H H' → SqT K H' r (List.map V.str zs) → Q (.ref r) H'
theorem sc_Graph_followed : FnScope ["self", "run", "has_others", "at", "found", "label", "step"] ["self", "run", "has_others"] (defScope s_Graph_followed) := ⟨rfl, rfl, rfl, by decide +kernel, rfl, by decide +kernel, by decide +kernel⟩
theorem ok_Graph_followed (T : TX w K mg) : FnR P w K mg base CX0 2 (a_Graph_followed K) (sp_Graph_followed K) := by
  obtain ⟨fd, F⟩ := T.fn 16 rfl rfl
  refine fR F sc_Graph_followed (fun _ _ _ _ _ _ us hl => match us, hl with | [_, _, _], _ => rfl) (fun vs H Q E h => ?_) (fun cdv A outer s H vs Q E hr h => ?_)
  · obtain ⟨m, N, F, b, nds, run, zs, rfl, ⟨dm, hm⟩, hN, hb, hl, hz, k⟩ := h
    rfl
  · obtain ⟨m, N, F, b, nds, run, zs, rfl, ⟨dm, hm⟩, hN, hb, hl, hz, k⟩ := h
    refine ⟨_, (pss_cons (ps_if (pt_not (pt_val (pe_callB call_isi (by rfl) (T.free "isinstance") (by decide +kernel) (pa_cons (pv 1) (pa_cons (pe_bltn (v := .ty "tuple") (by rfl) (T.free "tuple") (by decide +kernel) rfl) pa_nil)))))
        (pss_one ps_never)
        pss_nil)
      (pss_cons (pst 3 sc_Graph_followed.nd pe_int)
      (pss_cons (pst 4 sc_Graph_followed.nd (pe_lst pa_nil))
      (pss_cons (ps_for PassesOwn.never rfl (pi_tup (pv 1)) (pgn 5 sc_Graph_followed.nd)
        (pss_one (ps_if (PW.pt (pw_and (pt_val (pv 2)) (pw_and1 (pt_val (pe_cf (ok_is_between T) (hr.mono (by decide)) (by rfl) (T.gf "is_between") (pa_cons (pv 5) (pa_cons (pe_gint rfl (T.gint "OTHER" (-1))) (pa_cons (pe_gint rfl (T.gint "OTHER" (-1))) pa_nil))))))))
          (pss_one (ps_expr (pe_bm PySem.F.plainAttrs_list PySem.F.slot_list_append PySem.F.type_list_append mt_append (pv 4) (pa_cons pe_str pa_nil))))
          (pss_one (ps_if (pt_val (pe_cf (ok_is_between T) (hr.mono (by decide)) (by rfl) (T.gf "is_between") (pa_cons (pv 5) (pa_cons pe_int (pa_cons (pe_op op_sub (pe_callB call_len_seq (by rfl) (T.free "len") (by decide +kernel) (pa_cons (pe_ix ix_tup (pe_fd (T.cls "Mirror") (T.na "Mirror" "nodes") (pv 0)) (pv 3) (fun _ _ => rfl)) pa_nil)) pe_int) pa_nil)))))
            (pss_cons (ps_asg (pe_ix ix_tup (pe_ix ix_tup (pe_fd (T.cls "Mirror") (T.na "Mirror" "nodes") (pv 0)) (pv 3) (fun _ _ => rfl)) (pv 5) (fun _ _ => rfl)) (pg_tup rfl (pgs_cons (pgn 6 sc_Graph_followed.nd) (pgs_cons (pgn 3 sc_Graph_followed.nd) pgs_nil))))
            (pss_one (ps_expr (pe_bm PySem.F.plainAttrs_list PySem.F.slot_list_append PySem.F.type_list_append mt_append (pv 4) (pa_cons (pv 6) pa_nil)))))
            (pss_one ps_never))))))
      (pss_one (ps_ret (pe_callTy call_tuple_of (by rfl) (T.free "tuple") (by decide +kernel) (pa_cons (pv 4) pa_nil)))))))), ?_⟩
    refine ⟨_, rfl, _, _, _, _, true, rfl, .ty "tuple", tyT hb, kit_same _, true, rfl, ll rfl, fun L nL => ?_⟩
    have sL := Same.new (o := .lst []) nL
    refine ⟨_, rfl, b, rfl, ⟨_, Same.tup sL hb⟩, for_it (walk_tup (xs := List.map V.int run)) (fun i σ H' => ∃ n' zs' u5 u6, σ = [some (.ref m), some (.ref b), some (.bl true), some (.int ((n' : Nat) : Int)), some (.ref L), u5, u6] ∧ Same H H' ∧ H' L = some (.lst (List.map V.str zs')) ∧ zs'.length = i ∧ ∃ rest, stepsOf nds n' (run.drop i) = some rest ∧ zs = zs' ++ rest) ?_ ?_ ?_ ?_⟩
    · exact ⟨0, [], _, _, rfl, sL, upd_same, rfl, zs, by rw [List.drop_zero]; exact hz, rfl⟩
    · rintro i σ H' _ ⟨n', zs', u5, u6, rfl, s, _⟩
      exact Same.tup s hb
    · rintro i x σ H1 H2 hi ⟨n', zs', u5, u6, rfl, s, eL, hlen, rest, h3, hzs⟩ ⟨rfl, hx⟩
      obtain ⟨l, hx', rfl⟩ := get_map hx
      have hi' : i < run.length := by simpa using hi
      have hlt : zs'.length < sizeLine := by rw [hlen, line_eq]; omega
      rw [drop_at hx'] at h3
      unfold stepsOf at h3
      obtain ⟨e, e1, e2⟩ := Option.bind_eq_some_iff.mp h3
      obtain ⟨rest', e3, e4⟩ := Option.map_eq_some_iff.mp e2
      subst e4
      have hm' := s _ _ hm
      unfold edgeAt at e1
      by_cases h : l = -1
      · rw [if_pos h] at e1
        cases e1
        refine ⟨_, rfl, _, rfl, _, rfl, _, _, _, rfl, true, congrArg V.bl (decide_eq_true (by omega)), ?_⟩
        refine ⟨_, rfl, .inl ⟨rfl, _, .of eL⟩, _, _, _, rfl, rfl, eL, by rw [List.length_map]; exact hlt, ?_⟩
        refine ⟨n', zs' ++ (["other"] : List Str), _, _, rfl, Same.wr s nL, ?_, by rw [List.length_append, hlen]; rfl, rest', e3, by rw [hzs, List.append_assoc]; rfl⟩
        rw [upd_same, List.map_append]
        rfl
      · rw [if_neg h] at e1
        by_cases h0 : l < 0
        · rw [if_pos h0] at e1
          cases e1
        rw [if_neg h0] at e1
        obtain ⟨es, g1, g2⟩ := Option.bind_eq_some_iff.mp e1
        obtain ⟨xs, ha1, ha2⟩ := hN.same s
        obtain ⟨x, k1, nd, ys, rfl, k2, k3⟩ := Paired.at ha2 g1
        obtain ⟨y, k4, ed, rfl, k5⟩ := Paired.at k3 g2
        have el : ((l.toNat : Nat) : Int) = l := by omega
        have hly : l.toNat < ys.length := (List.getElem?_eq_some_iff.mp k4).1
        refine ⟨_, rfl, _, rfl, _, rfl, _, _, _, rfl, false, congrArg V.bl (decide_eq_false (by omega)), ?_⟩
        refine ⟨_, rfl, _, rfl, _, _, _, _, rfl, hm', rfl, _, rfl, _, _, _, _, rfl, rfl, ha1, atI_nat k1, _, _, rfl, .inr k2, _, _, rfl, rfl, _, _, _, rfl, true, congrArg V.bl (decide_eq_true (by omega)), ?_⟩
        refine ⟨_, rfl, _, _, _, _, rfl, hm', rfl, _, rfl, _, _, _, _, rfl, rfl, ha1, atI_nat k1, _, rfl, _, _, _, _, rfl, rfl, k2, by rw [← el]; exact atI_nat k4, _, _, rfl, k5, rfl, _, _, rfl, _, _, rfl, rfl, ?_⟩
        refine ⟨_, rfl, .inl ⟨rfl, _, .of eL⟩, _, rfl, _, _, _, rfl, rfl, eL, by rw [List.length_map]; exact hlt, ?_⟩
        refine ⟨e.2, zs' ++ [e.1], _, _, rfl, Same.wr s nL, ?_, by rw [List.length_append, hlen]; rfl, rest', e3, by rw [hzs, List.append_assoc]; rfl⟩
        rw [upd_same, List.map_append]
        rfl
    · rintro σ H' ⟨n', zs', u5, u6, rfl, s, eL, hlen, rest, h3, hzs⟩
      rw [List.length_map, List.drop_length] at h3
      cases h3
      rw [List.append_nil] at hzs
      subst hzs
      exact ⟨_, rfl, _, _, rfl, .inl ⟨.of eL, fun t nt => k _ _ (Same.newT s nt) (.of upd_same)⟩⟩
def sp_Mirror_steps (K : PySem.W.Frag) : Sp := fun vs H Q E => ∃ m N F b nds run zs, vs = [.ref m, .ref b] ∧ Mir K H m N F ∧ NodesT K H N nds ∧ SqT K H b (List.map V.int run) ∧ run.length < 1000 ∧ stepsOf nds 0 run = some zs ∧ ∀ H' r, Same H H' → SqT K H' r (List.map V.str zs) → Q (.ref r) H'
theorem sc_Mirror_steps : FnScope ["self", "run"] ["self", "run"] (defScope s_Mirror_steps) := ⟨rfl, rfl, rfl, by decide +kernel, rfl, by decide +kernel, by decide +kernel⟩
theorem ok_Mirror_steps (T : TX w K mg) : FnR P w K mg base CX0 3 (a_Mirror_steps K) (sp_Mirror_steps K) := by
  obtain ⟨fd, F⟩ := T.fn 23 rfl rfl
  refine fR F sc_Mirror_steps (fun _ _ _ _ _ _ us hl => match us, hl with | [_, _], _ => rfl) (fun vs H Q E h => ?_) (fun cdv A outer s H vs Q E hr h => ?_)
  · obtain ⟨m, N, F, b, nds, run, zs, rfl, ⟨dm, hm⟩, hN, hb, hl, hz, k⟩ := h
    rfl
  · obtain ⟨m, N, F, b, nds, run, zs, rfl, ⟨dm, hm⟩, hN, hb, hl, hz, k⟩ := h
    refine ⟨_, (pss_one (ps_ret (pe_me (pv 0) (T.cls "Mirror") (T.me "Mirror" "followed") (ok_Graph_followed T) (hr.mono (by decide)) (pa_cons (pv 1) (pa_cons pe_bl pa_nil))))), ?_⟩
    exact ⟨_, rfl, _, _, _, rfl, hm, rfl, _, rfl, _, _, _, _, _, _, _, rfl, ⟨_, hm⟩, hN, hb, hl, hz, k⟩
def sp_Mirror_question (K : PySem.W.Frag) : Sp := fun vs H Q E => ∃ m, vs = [.ref m, .str "stale"] ∧ ∀ H' q, Same H H' → H q = none → IsStale K H' q m → Q (.ref q) H'
theorem sc_Mirror_question : FnScope ["self", "way"] ["self", "way"] (defScope s_Mirror_question) := ⟨rfl, rfl, rfl, by decide +kernel, rfl, by decide +kernel, by decide +kernel⟩
theorem ok_Mirror_question (T : TX w K mg) : FnR P w K mg base CX0 3 (a_Mirror_question K) (sp_Mirror_question K) := by
  obtain ⟨fd, F⟩ := T.fn 24 rfl rfl
  refine fR F sc_Mirror_question (fun _ _ _ _ _ _ us hl => match us, hl with | [_, _], _ => rfl) (fun vs H Q E h => ?_) (fun cdv A outer s H vs Q E hr h => ?_)
  · obtain ⟨m, rfl, k⟩ := h
    rfl
  · obtain ⟨m, rfl, k⟩ := h
    refine ⟨_, (pss_cons (ps_if (PW.pt (pw_and (pt_val (pe_callB call_isi (by rfl) (T.free "isinstance") (by decide +kernel) (pa_cons (pv 1) (pa_cons (pe_bltn (v := .ty "str") (by rfl) (T.free "str") (by decide +kernel) rfl) pa_nil)))) (pw_and1 (pt_cmpR op_eq (pv 1) pe_str (nomark _)))))
        (pss_one (ps_ret (pe_mk (T.mkr "Stale") (ok_Question___init__ T) (hr.mono (by decide)) (by rfl) (T.ref "Stale") (pa_cons (pv 0) pa_nil))))
        pss_nil)
      pss_never), ?_⟩
    refine ⟨_, rfl, _, _, _, _, true, rfl, .ty "str", .base (.str _), kit_same _, true, rfl, _, rfl, rfl, true, congrArg V.bl (sT rfl), _, rfl, fun x dx n1 n2 ne => ⟨_, _, _, rfl, upd_same, fun H' f e => ⟨rfl, ?_⟩⟩⟩
    exact k _ _ (Fr.drop n1 ((Fr.new n2).trans ((Fr.new (by rw [upd_ne (Ne.symm ne)]; exact n1)).trans f))).toSame n1 ⟨_, e⟩
def MvT (H : Hp) (v : V) (x : Int × S6) : Prop := ∃ a b, v = .ref a ∧ H a = some (.tup [.int x.1, .ref b]) ∧ H b = some (.tup (v6 x.2))
theorem MvT.same {H H' : Hp} (s : Same H H') {v : V} {x : Int × S6} : MvT H v x → MvT H' v x := fun ⟨a, b, e, h1, h2⟩ => ⟨a, b, e, s _ _ h1, s _ _ h2⟩
theorem MvT.upd {H : Hp} {L : Addr} {ls : List V} {o : HO} (h : H L = some (.lst ls)) {v : V} {x : Int × S6} : MvT H v x → MvT (L2.upd H L o) v x := fun ⟨a, b, e, h1, h2⟩ =>
  ⟨a, b, e, by rw [upd_ne (ne_of h1 h fun z => nomatch z)]; exact h1, by rw [upd_ne (ne_of h2 h fun z => nomatch z)]; exact h2⟩
def movesL (es : List (Str × Nat)) (wk : I3) (pr : I2) : List (Int × S6) := es.zipIdx.map fun p => ((p.2 : Int), (p.1.2, behP p.1.1 wk pr))
def movesP (nds : Nds) (st : S6) : List (Int × S6) := (-1, (st.1, toldP st.2.1)) :: movesL (nds.getD st.1 []) st.2.1 st.2.2
theorem movesL_at {es : List (Str × Nat)} {wk : I3} {pr : I2} {i : Nat} {e : Str × Nat} (h : es[i]? = some e) : (movesL es wk pr)[i]? = some ((i : Int), (e.2, behP e.1 wk pr)) := by
  unfold movesL
  rw [List.getElem?_map, List.getElem?_zipIdx, h]
  simp
theorem movesL_len {es : List (Str × Nat)} {wk : I3} {pr : I2} : (movesL es wk pr).length = es.length := by
  unfold movesL
  simp
def sp_Watch_moves (K : PySem.W.Frag) : Sp := fun vs H Q E => ∃ q m N F a nds st, vs = [.ref q, .ref a] ∧ IsStale K H q m ∧ Mir K H m N F ∧ NodesT K H N nds ∧ SqT K H a (v6 st) ∧ OkNds nds ∧ st.1 < nds.length ∧ ∀ H' L ls, Same H H' → H L = none → H' L = some (.lst ls) → Paired (MvT H') ls (movesP nds st) → Q (.ref L) H'
theorem sc_Watch_moves : FnScope ["self", "state", "work", "pair", "found", "label", "step", "there"] ["self", "state"] (defScope s_Watch_moves) := ⟨rfl, rfl, rfl, by decide +kernel, rfl, by decide +kernel, by decide +kernel⟩
theorem ok_Watch_moves (T : TX w K mg) : FnR P w K mg base CX0 4 (a_Watch_moves K) (sp_Watch_moves K) := by
  obtain ⟨fd, F⟩ := T.fn 29 rfl rfl
  refine fR F sc_Watch_moves (fun _ _ _ _ _ _ us hl => match us, hl with | [_, _], _ => rfl) (fun vs H Q E h => ?_) (fun cdv A outer s H vs Q E hr h => ?_)
  · obtain ⟨q, m, N, F, a, nds, st, rfl, ⟨dq, hq⟩, ⟨dm, hm⟩, hN, ha, hok, hlt, k⟩ := h
    rfl
  · obtain ⟨q, m, N, F, a, nds, st, rfl, ⟨dq, hq⟩, ⟨dm, hm⟩, hN, ha, hok, hlt, k⟩ := h
    refine ⟨_, (pss_cons (ps_asg (pe_me (pv 0) (T.cls "Stale") (T.me "Stale" "told") (ok_Stale_told T) (hr.mono (by decide)) (pa_cons (pe_slice sl_tupA (pv 1) (po_some pe_int) (po_some pe_int)) (pa_cons (pe_slice sl_tupA (pv 1) (po_some pe_int) po_none) pa_nil))) (pg_tup rfl (pgs_cons (pgn 2 sc_Watch_moves.nd) (pgs_cons (pgn 3 sc_Watch_moves.nd) pgs_nil))))
      (pss_cons (pst 4 sc_Watch_moves.nd (pe_lst (pa_cons (pe_tup (pa_cons (pe_gint rfl (T.gint "OTHER" (-1))) (pa_cons (pe_tup (pa_cons (pe_ix ix_tup (pv 1) pe_int (fun _ _ => rfl)) (StX.pa_star (pv 2) (StX.pa_star (pv 3) pa_nil)))) pa_nil))) pa_nil)))
      (pss_cons (ps_for PassesOwn.never rfl (pi_enumT rfl (T.free "enumerate") (pa_cons (pe_ix ix_tup (pe_fd (T.cls "Mirror") (T.na "Mirror" "nodes") (pe_fd (T.cls "Stale") (T.na "Stale" "graph") (pv 0))) (pe_ix ix_tup (pv 1) pe_int (fun _ _ => rfl)) (fun _ _ => rfl)) pa_nil)) (pg_tup rfl (pgs_cons (pgn 5 sc_Watch_moves.nd) (pgs_cons (pg_tup rfl (pgs_cons (pgn 6 sc_Watch_moves.nd) (pgs_cons (pgn 7 sc_Watch_moves.nd) pgs_nil))) pgs_nil)))
        (pss_cons (ps_asg (pe_me (pv 0) (T.cls "Stale") (T.me "Stale" "behind") (ok_Watch_behind T) (hr.mono (by decide)) (pa_cons (pv 6) (pa_cons (pe_slice sl_tupA (pv 1) (po_some pe_int) (po_some pe_int)) (pa_cons (pe_slice sl_tupA (pv 1) (po_some pe_int) po_none) pa_nil)))) (pg_tup rfl (pgs_cons (pgn 2 sc_Watch_moves.nd) (pgs_cons (pgn 3 sc_Watch_moves.nd) pgs_nil))))
        (pss_one (ps_expr (pe_bm PySem.F.plainAttrs_list PySem.F.slot_list_append PySem.F.type_list_append mt_append (pv 4) (pa_cons (pe_tup (pa_cons (pv 5) (pa_cons (pe_tup (pa_cons (pv 7) (StX.pa_star (pv 2) (StX.pa_star (pv 3) pa_nil)))) pa_nil))) pa_nil))))))
      (pss_one (ps_ret (pv 4)))))), ?_⟩
    have hes : nds[st.1]? = some nds[st.1] := List.getElem?_eq_getElem hlt
    have hle : nds[st.1].length ≤ 3 := (hok.2.2 _ (List.getElem_mem hlt)).1
    have hgd : nds.getD st.1 [] = nds[st.1] := by rw [List.getD_eq_getElem?_getD, hes]; rfl
    generalize nds[st.1] = es at hes hle hgd
    refine ⟨_, rfl, _, _, _, rfl, hq, rfl, _, rfl, _, rfl, _, rfl, _, _, rfl, ha, fun h => absurd (show (1 : Nat) = 0 from h.1) (by decide), fun _ p1 n1 => ?_⟩
    refine ⟨_, rfl, _, rfl, _, _, rfl, Same.tup (Same.new n1) ha, fun h => absurd (show (4 : Nat) = 0 from h.1) (by decide), fun _ p2 n2 => ?_⟩
    refine ⟨_, _, _, st.2.1, rfl, .of (Same.new n2 _ _ upd_same), fun H1 r1 s1 ⟨w1, b1, g1, g2, g3⟩ => ⟨_, _, rfl, g1, rfl, _, _, rfl, _, _, rfl, rfl, ?_⟩⟩
    have t1 : Same H H1 := (Same.newT (Same.new n1) n2).trans s1
    have ha1 := Same.tup t1 ha
    refine ⟨_, rfl, _, _, _, _, rfl, rfl, ha1, rfl, _, rfl, _, _, rfl, .inl g2, _, rfl, _, _, rfl, .inl g3, ll rfl, fun b nb => ⟨ll rfl, fun c nc => ⟨ll rfl, fun L nL => ?_⟩⟩⟩
    have t2 := Same.newT (o := .lst [.ref c]) (Same.newT (o := .tup [.int (-1), .ref b]) (Same.newT (o := .tup (v6 (st.1, toldP st.2.1))) t1 nb) nc) nL
    have hL0 : H L = none := none_of (Same.newT (Same.newT t1 nb) nc) nL
    obtain ⟨xs, ha2, ha3⟩ := hN
    obtain ⟨x, k1, nd, ys, rfl, k2, k3⟩ := Paired.at ha3 hes
    have hly : ys.length = es.length := Paired.length k3
    refine ⟨_, rfl, _, _, _, _, rfl, t2 _ _ hq, rfl, _, _, _, _, rfl, t2 _ _ hm, rfl, _, rfl, _, _, _, _, rfl, rfl, Same.tup t2 ha, rfl, _, _, _, _, rfl, rfl, Same.tup t2 ha2, atI_nat k1, _, _, rfl, Same.tup t2 k2, ?_⟩
    refine for_it (walk_enumT (xs := ys)) (fun i σ H' => ∃ u2 u3 u5 u6 u7, σ = [some (.ref q), some (.ref a), u2, u3, some (.ref L), u5, u6, u7] ∧ Same H H' ∧ ∃ ls, H' L = some (.lst ls) ∧ ls.length = i + 1 ∧ Paired (MvT H') ls ((-1, (st.1, toldP st.2.1)) :: (movesL es st.2.1 st.2.2).take i)) ?_ ?_ ?_ ?_
    · refine ⟨_, _, _, _, _, rfl, t2, _, upd_same, rfl, .cons ⟨c, b, rfl, Same.new nL _ _ upd_same, Same.new nL _ _ (Same.new nc _ _ upd_same)⟩ ?_⟩
      rw [List.take_zero]
      exact .nil
    · rintro i σ H' _ ⟨u2, u3, u5, u6, u7, rfl, t3, _⟩
      exact Same.tup t3 k2
    · rintro i x σ H3 _ hi ⟨u2, u3, u5, u6, u7, rfl, t3, ls, eL, hls, hP⟩ ⟨T', y, z, rfl, nT, rfl, hy, hz⟩
      cases hy
      have hi2 : i < es.length := by omega
      obtain ⟨y', k4, ed, rfl, k5⟩ := Paired.at k3 (List.getElem?_eq_getElem hi2)
      cases k4.symm.trans hz
      have t4 : Same H (upd H3 T' (.tup [.int (i : Nat), .ref ed])) := Same.newT t3 nT
      have eL4 := Same.new (o := .tup [.int (i : Nat), .ref ed]) nT _ _ eL
      refine ⟨_, _, rfl, .of upd_same, rfl, _, _, rfl, _, _, rfl, ⟨_, _, rfl, Same.tup t4 k5, rfl, _, _, rfl, _, _, rfl, rfl, rfl, ?_⟩⟩
      refine ⟨_, rfl, _, _, _, rfl, t4 _ _ hq, rfl, _, rfl, _, rfl, _, rfl, _, rfl, _, _, rfl, Same.tup t4 ha, fun h => absurd (show (1 : Nat) = 0 from h.1) (by decide), fun _ p1 n1 => ?_⟩
      refine ⟨_, rfl, _, rfl, _, _, rfl, Same.tup (Same.newT t4 n1) ha, fun h => absurd (show (4 : Nat) = 0 from h.1) (by decide), fun _ p2 n2 => ?_⟩
      have t5 := Same.newT (o := .tup (cutV (v6 st) (some 4) none)) (Same.newT (o := .tup (cutV (v6 st) (some 1) (some 4))) t4 n1) n2
      refine ⟨_, m, _, p1, st.2.1, p2, st.2.2, rfl, ⟨_, t5 _ _ hq⟩, .of (Same.new n2 _ _ upd_same), .of upd_same, fun H5 r5 s5 ⟨w5, b5, f1, f2, f3⟩ => ⟨_, _, rfl, f1, rfl, _, _, rfl, _, _, rfl, rfl, ?_⟩⟩
      have u5' := ((Same.new n1).trans (Same.new n2)).trans s5
      have eL5 := u5' _ _ eL4
      refine ⟨_, rfl, .inl ⟨rfl, _, .of eL5⟩, _, rfl, _, rfl, _, rfl, _, _, rfl, .inl f2, _, rfl, _, _, rfl, .inl f3, ll rfl, fun b6 nb6 => ⟨ll rfl, fun c6 nc6 => ?_⟩⟩
      have u6' := Same.newT (o := .tup [.int (i : Nat), .ref b6]) (Same.new (o := .tup (v6 (es[i].2, behP es[i].1 st.2.1 st.2.2))) nb6) nc6
      have eL6 := u6' _ _ eL5
      refine ⟨_, _, _, rfl, rfl, eL6, by rw [hls, line_eq]; omega, ?_⟩
      refine ⟨_, _, _, _, _, rfl, Same.wr (((t4.trans u5').trans u6')) hL0, _, upd_same, by rw [List.length_append, hls]; rfl, ?_⟩
      rw [take_at (movesL_at (List.getElem?_eq_getElem hi2)), ← List.cons_append]
      refine Paired.snoc (Paired.mapP hP fun _ _ h => MvT.upd eL6 (((h.same (Same.new nT)).same u5').same u6')) (MvT.upd eL6 ⟨c6, b6, rfl, upd_same, Same.new nc6 _ _ upd_same⟩)
    · rintro σ H' ⟨u2, u3, u5, u6, u7, rfl, t3, ls, eL, hls, hP⟩
      refine ⟨_, rfl, k _ _ ls t3 hL0 eL ?_⟩
      rw [hly, ← movesL_len (es := es) (wk := st.2.1) (pr := st.2.2), List.take_length] at hP
      unfold movesP
      rw [hgd]
      exact hP
    
end
end CN
end
section
set_option Elab.async false
set_option linter.all false
set_option maxRecDepth 100000
set_option maxHeartbeats 4000000
namespace CN
open PySem PySem.Spec PyProof.Rows L2
local macro_rules | `(tactic| trivial) => `(tactic| exact Led.get (by assumption) 9)
local macro_rules | `(tactic| trivial) => `(tactic| exact Led.get (by assumption) 8)
local macro_rules | `(tactic| trivial) => `(tactic| exact Led.get (by assumption) 7)
local macro_rules | `(tactic| trivial) => `(tactic| exact Led.get (by assumption) 6)
local macro_rules | `(tactic| trivial) => `(tactic| exact Led.get (by assumption) 5)
local macro_rules | `(tactic| trivial) => `(tactic| exact Led.get (by assumption) 4)
local macro_rules | `(tactic| trivial) => `(tactic| exact Led.get (by assumption) 3)
local macro_rules | `(tactic| trivial) => `(tactic| exact Led.get (by assumption) 2)
local macro_rules | `(tactic| trivial) => `(tactic| exact Led.get (by assumption) 1)
local macro_rules | `(tactic| trivial) => `(tactic| exact Led.get (by assumption) 0)
section
variable {P : Program} {w : World} {K : PySem.W.Frag} {mg : Str → Option Value} {base : Heap}
/-! ### the search -/
def Ok3 (x : I3) : Prop := (0 ≤ x.1 ∧ x.1 ≤ 2) ∧ (0 ≤ x.2.1 ∧ x.2.1 ≤ 2) ∧ (0 ≤ x.2.2 ∧ x.2.2 ≤ 1)
def Ok2 (x : I2) : Prop := (0 ≤ x.1 ∧ x.1 ≤ 1) ∧ (0 ≤ x.2 ∧ x.2 ≤ 1)
def Okst (n : Nat) (s : S6) : Prop := s.1 < n ∧ Ok3 s.2.1 ∧ Ok2 s.2.2
theorem b0 : 0 ≤ (0 : Int) ∧ (0 : Int) ≤ 2 := by decide
theorem b1 : 0 ≤ (1 : Int) ∧ (1 : Int) ≤ 2 := by decide
theorem b2 : 0 ≤ (2 : Int) ∧ (2 : Int) ≤ 2 := by decide
theorem c0 : 0 ≤ (0 : Int) ∧ (0 : Int) ≤ 1 := by decide
theorem c1 : 0 ≤ (1 : Int) ∧ (1 : Int) ≤ 1 := by decide
theorem lostP_ok {p : I2} (h : Ok2 p) : Ok2 (lostP p) := ⟨h.1, c0⟩
theorem copP_ok {p : I2} (sn : Int) (h : Ok2 p) : Ok2 (copP sn p) := by
  unfold copP
  refine ⟨?_, h.2⟩
  show 0 ≤ (if sn = 2 then (0 : Int) else 1) ∧ (if sn = 2 then (0 : Int) else 1) ≤ 1
  split <;> omega
theorem recP_ok {p : I2} (h : Ok2 p) : Ok2 (recP p) := by
  unfold recP
  split
  · exact ⟨c1, c0⟩
  · exact h
theorem toldP_ok {x : I3} (h : Ok3 x) : Ok3 (toldP x).1 ∧ Ok2 (toldP x).2 := by
  obtain ⟨h1, h2, h3⟩ := h
  refine ⟨⟨?_, h2, h3⟩, c0, h3⟩
  show 0 ≤ (if 0 < x.1 then (2 : Int) else 0) ∧ (if 0 < x.1 then (2 : Int) else 0) ≤ 2
  split <;> omega
theorem behP_ok (st : Str) {x : I3} {p : I2} (h : Ok3 x) (h2 : Ok2 p) : Ok3 (behP st x p).1 ∧ Ok2 (behP st x p).2 := by
  have z3 : Ok3 (0, 0, 0) := ⟨b0, b0, c0⟩
  obtain ⟨a, b, c⟩ := x
  obtain ⟨g1, g2, g3⟩ := id h
  unfold behP aloneP withinP
  repeat' split
  all_goals first
    | exact ⟨z3, lostP_ok h2⟩
    | exact ⟨h, copP_ok _ h2⟩
    | exact ⟨h, h2⟩
    | exact ⟨⟨b0, b0, g3⟩, h2⟩
    | exact ⟨⟨b1, b0, g3⟩, h2⟩
    | exact ⟨⟨b0, b0, g3⟩, recP_ok h2⟩
    | exact ⟨⟨b0, b0, c1⟩, h2⟩
    | exact ⟨⟨g1, b1, g3⟩, h2⟩
    | exact ⟨⟨g1, b2, g3⟩, h2⟩
theorem movesP_ok {nds : Nds} {s : S6} {x : Int × S6} (hk : OkNds nds) (h : Okst nds.length s) (hx : x ∈ movesP nds s) : Okst nds.length x.2 := by
  obtain ⟨h1, h2, h3⟩ := h
  unfold movesP at hx
  rcases List.mem_cons.mp hx with rfl | hx
  · exact ⟨h1, (toldP_ok h2).1, (toldP_ok h2).2⟩
  · unfold movesL at hx
    obtain ⟨⟨e, i⟩, he, rfl⟩ := List.mem_map.mp hx
    have he2 : e ∈ nds.getD s.1 [] := by
      have := List.mem_zipIdx he
      obtain ⟨_, h4, h5⟩ := this
      rw [h5]
      exact List.getElem_mem _
    have hgd : nds.getD s.1 [] = nds[s.1] := by rw [List.getD_eq_getElem?_getD, List.getElem?_eq_getElem h1]; rfl
    rw [hgd] at he2
    exact ⟨((hk.2.2 _ (List.getElem_mem h1)).2 e he2).2, (behP_ok _ h2 h3).1, (behP_ok _ h2 h3).2⟩
/-- a number for each state -/
def code (s : S6) : Nat := ((((s.1 * 3 + s.2.1.1.toNat) * 3 + s.2.1.2.1.toNat) * 2 + s.2.1.2.2.toNat) * 2 + s.2.2.1.toNat) * 2 + s.2.2.2.toNat
theorem code_lt {n : Nat} {s : S6} (h : Okst n s) : code s < n * 72 := by
  obtain ⟨h1, ⟨⟨a1, a2⟩, ⟨b1, b2⟩, c1, c2⟩, ⟨d1, d2⟩, e1, e2⟩ := h
  unfold code
  omega
theorem code_inj {n : Nat} {s t : S6} (h : Okst n s) (h' : Okst n t) (e : code s = code t) : s = t := by
  obtain ⟨h1, ⟨⟨a1, a2⟩, ⟨b1, b2⟩, c1, c2⟩, ⟨d1, d2⟩, e1, e2⟩ := h
  obtain ⟨i1, ⟨⟨j1, j2⟩, ⟨k1, k2⟩, l1, l2⟩, ⟨m1, m2⟩, n1, n2⟩ := h'
  obtain ⟨s1, ⟨s2, s3, s4⟩, s5, s6⟩ := s
  obtain ⟨t1, ⟨t2, t3, t4⟩, t5, t6⟩ := t
  unfold code at e
  simp only at *
  have x6 : s6 = t6 := by omega
  have x5 : s5 = t5 := by omega
  have x4 : s4 = t4 := by omega
  have x3 : s3 = t3 := by omega
  have x2 : s2 = t2 := by omega
  have x1 : s1 = t1 := by omega
  subst x1 x2 x3 x4 x5 x6
  rfl
def free (n : Nat) (l : List S6) : Nat := ((List.range (n * 72)).filter fun c => !(l.map code).contains c).length
theorem filt_le {p q : Nat → Bool} (h : ∀ x, q x = true → p x = true) : ∀ R : List Nat, (R.filter q).length ≤ (R.filter p).length
  | [] => Nat.le_refl _
  | a :: r => by
    have ih := filt_le h r
    rw [List.filter_cons, List.filter_cons]
    cases hq : q a with
    | true =>
      rw [if_pos rfl, if_pos (h a hq)]
      exact Nat.succ_le_succ ih
    | false =>
      rw [if_neg (by decide)]
      split
      · exact Nat.le_succ_of_le ih
      · exact ih
theorem filt_lt {p q : Nat → Bool} (h : ∀ x, q x = true → p x = true) {c : Nat} (hp : p c = true) (hq : q c = false) : ∀ R : List Nat, c ∈ R → (R.filter q).length + 1 ≤ (R.filter p).length
  | [], hc => by cases hc
  | a :: r, hc => by
    rw [List.filter_cons, List.filter_cons]
    by_cases e : a = c
    · subst e
      rw [if_pos hp, if_neg (by rw [hq]; decide)]
      exact Nat.succ_le_succ (filt_le h r)
    · have ih := filt_lt h hp hq r (by
        rcases List.mem_cons.mp hc with z | z
        · exact absurd z.symm e
        · exact z)
      cases hq2 : q a with
      | true =>
        rw [if_pos rfl, if_pos (h a hq2)]
        exact Nat.succ_le_succ ih
      | false =>
        rw [if_neg (by decide)]
        split
        · exact Nat.le_succ_of_le ih
        · exact ih
theorem free_add {n : Nat} {l : List S6} {s : S6} (hl : ∀ t ∈ l, Okst n t) (hs : Okst n s) (hn : s ∉ l) : free n (l ++ [s]) + 1 ≤ free n l := by
  unfold free
  refine filt_lt (c := code s) (fun x hx => ?_) ?_ ?_ _ (List.mem_range.mpr (code_lt hs))
  · have h1 : x ∉ (l ++ [s]).map code := fun h => by
      rw [show ((l ++ [s]).map code).contains x = true from List.contains_iff_mem.mpr h] at hx
      cases hx
    have h2 : x ∉ l.map code := fun h => h1 (by rw [List.map_append]; exact List.mem_append_left _ h)
    rw [show (l.map code).contains x = false from Bool.eq_false_iff.mpr fun h => h2 (List.contains_iff_mem.mp h)]
    rfl
  · have hc : code s ∉ l.map code := fun h => by
      obtain ⟨t, ht, e⟩ := List.mem_map.mp h
      exact hn (code_inj (hl t ht) hs e ▸ ht)
    rw [show (l.map code).contains (code s) = false from Bool.eq_false_iff.mpr fun h => hc (List.contains_iff_mem.mp h)]
    rfl
  · rw [show ((l ++ [s]).map code).contains (code s) = true from List.contains_iff_mem.mpr (List.mem_map.mpr ⟨s, by simp, rfl⟩)]
    rfl

end
end CN
end
section
set_option Elab.async false
set_option linter.all false
set_option maxRecDepth 100000
set_option maxHeartbeats 4000000
namespace CN
open PySem PySem.Spec PyProof.Rows L2
local macro_rules | `(tactic| trivial) => `(tactic| exact Led.get (by assumption) 9)
local macro_rules | `(tactic| trivial) => `(tactic| exact Led.get (by assumption) 8)
local macro_rules | `(tactic| trivial) => `(tactic| exact Led.get (by assumption) 7)
local macro_rules | `(tactic| trivial) => `(tactic| exact Led.get (by assumption) 6)
local macro_rules | `(tactic| trivial) => `(tactic| exact Led.get (by assumption) 5)
local macro_rules | `(tactic| trivial) => `(tactic| exact Led.get (by assumption) 4)
local macro_rules | `(tactic| trivial) => `(tactic| exact Led.get (by assumption) 3)
local macro_rules | `(tactic| trivial) => `(tactic| exact Led.get (by assumption) 2)
local macro_rules | `(tactic| trivial) => `(tactic| exact Led.get (by assumption) 1)
local macro_rules | `(tactic| trivial) => `(tactic| exact Led.get (by assumption) 0)
section
variable {P : Program} {w : World} {K : PySem.W.Frag} {mg : Str → Option Value} {base : Heap}
def StT (H : Hp) (v : V) (s : S6) : Prop := ∃ a, v = .ref a ∧ H a = some (.tup (v6 s))
theorem StT.same {H H' : Hp} (s : Same H H') {v : V} {x : S6} : StT H v x → StT H' v x := fun ⟨a, e, h1⟩ => ⟨a, e, s _ _ h1⟩
structure Bf (H : Hp) (nds : Nds) (D L : Addr) (line : List S6) : Prop where
  nd : line.Nodup
  z : s0 ∈ line
  ok : ∀ s ∈ line, Okst nds.length s
  ln : line.length + free nds.length line ≤ 360
  eD : ∃ kvs, H D = some (.dT kvs) ∧ kvs.map Prod.fst = line.map k6 ∧ ∀ p ∈ kvs, ∃ b xs, p.2 = .ref b ∧ H b = some (.tup xs) ∧ xs.length ≤ line.length
  eL : ∃ refs, H L = some (.lst refs) ∧ Paired (StT H) refs line
theorem Bf.same {H H' : Hp} {nds : Nds} {D L : Addr} {line : List S6} (b : Bf H nds D L line) (s : Same H H') : Bf H' nds D L line := by
  obtain ⟨h1, h2, h3, h4, ⟨kvs, e1, e2, e3⟩, refs, e4, e5⟩ := b
  refine ⟨h1, h2, h3, h4, ⟨kvs, s _ _ e1, e2, fun p hp => ?_⟩, refs, s _ _ e4, Paired.mapP e5 fun _ _ => StT.same s⟩
  obtain ⟨b, xs, q1, q2, q3⟩ := e3 p hp
  exact ⟨b, xs, q1, s _ _ q2, q3⟩
theorem k6_inj {s t : S6} (h : k6 s = k6 t) : s = t := by
  obtain ⟨s1, ⟨s2, s3, s4⟩, s5, s6⟩ := s
  obtain ⟨t1, ⟨t2, t3, t4⟩, t5, t6⟩ := t
  unfold k6 at h
  simp only [List.cons.injEq, Sum.inl.injEq, and_true] at h
  obtain ⟨h1, h2, h3, h4, h5, h6⟩ := h
  have h1 : s1 = t1 := by omega
  subst h1 h2 h3 h4 h5 h6
  rfl
theorem valV_some {κ : Type} [DecidableEq κ] {k : κ} : ∀ {kvs : List (κ × V)}, k ∈ kvs.map Prod.fst → ∃ v, valV kvs k = some v ∧ (k, v) ∈ kvs
  | p :: r, h => by
    by_cases e : p.1 = k
    · exact ⟨p.2, valV_pos e, by rw [← e]; exact .head _⟩
    · rw [List.map_cons] at h
      rcases List.mem_cons.mp h with h | h
      · exact absurd h.symm e
      · obtain ⟨v, h1, h2⟩ := valV_some h
        exact ⟨v, by rw [valV_neg e]; exact h1, .tail _ h2⟩
theorem valV_none {κ : Type} [DecidableEq κ] {k : κ} : ∀ {kvs : List (κ × V)}, k ∉ kvs.map Prod.fst → valV kvs k = none
  | [], _ => rfl
  | p :: r, h => by
    rw [List.map_cons] at h
    have h1 : ¬ p.1 = k := fun e => h (by rw [e]; exact .head _)
    rw [valV_neg h1]
    exact valV_none fun q => h (.tail _ q)
theorem putK_new {κ : Type} [DecidableEq κ] {k : κ} {v : V} {kvs : List (κ × V)} (h : valV kvs k = none) : putK kvs k v = kvs ++ [(k, v)] := by
  unfold putK
  rw [valV_any, h]
  rfl
theorem mem_k6 {line : List S6} {s : S6} : k6 s ∈ line.map k6 ↔ s ∈ line := by
  constructor
  · intro h
    obtain ⟨t, ht, e⟩ := List.mem_map.mp h
    exact k6_inj e ▸ ht
  · exact fun h => List.mem_map.mpr ⟨s, h, rfl⟩
theorem snoc_get {α : Type} {l : List α} {x : α} {i : Nat} {y : α} (h : l[i]? = some y) : (l ++ [x])[i]? = some y := by
  rw [List.getElem?_append_left (List.getElem?_eq_some_iff.mp h).1]
  exact h
theorem hold3 {H : Hp} {D L t b : Addr} {kvs : List (List Key × V)} {refs ys xs : List V} {o o' : HO} (eD : H D = some (.dT kvs)) (eL : H L = some (.lst refs)) (nt : H t = none) (hb : H b = some (.tup xs)) :
    upd (upd (upd H t (.tup ys)) D o) L o' b = some (.tup xs) := by
  rw [upd_ne (ne_of hb eL fun z => nomatch z), upd_ne (ne_of hb eD fun z => nomatch z), upd_ne (ne_of_none hb nt)]
  exact hb
theorem MvT.keep {H H' : Hp} (hk : ∀ b xs, H b = some (.tup xs) → H' b = some (.tup xs)) {v : V} {x : Int × S6} : MvT H v x → MvT H' v x := fun ⟨a, b, e, h1, h2⟩ => ⟨a, b, e, hk _ _ h1, hk _ _ h2⟩
/-- one more state -/
theorem Bf.add {H : Hp} {nds : Nds} {D L : Addr} {line : List S6} {s : S6} {a t : Addr} {ys : List V} {kvs : List (List Key × V)} {refs : List V} (B : Bf H nds D L line) (hs : Okst nds.length s) (hn : s ∉ line) (ea : H a = some (.tup (v6 s)))
    (eD : H D = some (.dT kvs)) (eL : H L = some (.lst refs)) (nt : H t = none) (hy : ys.length ≤ line.length + 1) :
    Bf (upd (upd (upd H t (.tup ys)) D (.dT (putK kvs (k6 s) (.ref t)))) L (.lst (refs ++ [.ref a]))) nds D L (line ++ [s]) := by
  obtain ⟨h1, h2, h3, h4, ⟨kvs', e1, e2, e3⟩, refs', e4, e5⟩ := B
  cases e1.symm.trans eD
  cases e4.symm.trans eL
  have nDL : D ≠ L := ne_of eD eL fun z => nomatch z
  have hv : valV kvs (k6 s) = none := valV_none (by rw [e2]; exact fun h => hn (mem_k6.mp h))
  have hold : ∀ b xs, H b = some (.tup xs) → upd (upd (upd H t (.tup ys)) D (.dT (putK kvs (k6 s) (.ref t)))) L (.lst (refs ++ [.ref a])) b = some (.tup xs) := fun b xs hb => by
    rw [upd_ne (ne_of hb eL fun z => nomatch z), upd_ne (ne_of hb eD fun z => nomatch z), upd_ne (ne_of_none hb nt)]
    exact hb
  have htn : upd (upd (upd H t (.tup ys)) D (.dT (putK kvs (k6 s) (.ref t)))) L (.lst (refs ++ [.ref a])) t = some (.tup ys) := by
    rw [upd_ne (Ne.symm (ne_of_none eL nt)), upd_ne (Ne.symm (ne_of_none eD nt)), upd_same]
  refine ⟨List.nodup_append.mpr ⟨h1, by simp, fun x hx y hy => ?_⟩, List.mem_append_left _ h2, fun x hx => ?_, ?_, ⟨kvs ++ [(k6 s, .ref t)], ?_, ?_, fun p hp => ?_⟩, refs ++ [.ref a], upd_same, Paired.snoc (Paired.mapP e5 fun v x ⟨b, q1, q2⟩ => ⟨b, q1, hold _ _ q2⟩) ⟨a, rfl, hold _ _ ea⟩⟩
  · obtain rfl : y = s := by simpa using hy
    rintro rfl
    exact hn hx
  · rcases List.mem_append.mp hx with hx | hx
    · exact h3 x hx
    · obtain rfl : x = s := by simpa using hx
      exact hs
  · have := free_add h3 hs hn
    rw [List.length_append]
    simp only [List.length_singleton]
    omega
  · rw [upd_ne nDL, upd_same, putK_new hv]
  · rw [List.map_append, List.map_append, e2]
    rfl
  · rcases List.mem_append.mp hp with hp | hp
    · obtain ⟨b, xs, q1, q2, q3⟩ := e3 p hp
      exact ⟨b, xs, q1, hold _ _ q2, by rw [List.length_append]; omega⟩
    · obtain rfl : p = (k6 s, .ref t) := by simpa using hp
      exact ⟨t, ys, rfl, htn, by rw [List.length_append]; exact hy⟩
def Clo (nds : Nds) (line : List S6) (n : Nat) : Prop := ∀ i, i < n → ∀ s, line[i]? = some s → ∀ x ∈ movesP nds s, x.2 ∈ line
def sp_Question_reached (K : PySem.W.Frag) : Sp := fun vs H Q E => ∃ q m N F nds, vs = [.ref q] ∧ IsStale K H q m ∧ Mir K H m N F ∧ NodesT K H N nds ∧ OkNds nds ∧ ∀ H' D kvs line, Same H H' → H D = none → H' D = some (.dT kvs) → List.map Prod.fst kvs = List.map k6 line → (∀ p ∈ kvs, ∃ b, p.2 = .ref b) → s0 ∈ line → (∀ s : S6, s ∈ line → s.1 < nds.length) → (∀ s ∈ line, ∀ x ∈ movesP nds s, x.2 ∈ line) → Q (.ref D) H'
theorem sc_Question_reached : FnScope ["self", "found", "line", "at", "label", "later"] ["self"] (defScope s_Question_reached) := ⟨rfl, rfl, rfl, by decide +kernel, rfl, by decide +kernel, by decide +kernel⟩
theorem ok_Question_reached (T : TX w K mg) : FnR P w K mg base CX0 5 (a_Question_reached K) (sp_Question_reached K) := by
  obtain ⟨fd, F⟩ := T.fn 19 rfl rfl
  refine fR F sc_Question_reached (fun _ _ _ _ _ _ us hl => match us, hl with | [_], _ => rfl) (fun vs H Q E h => ?_) (fun cdv A outer s H vs Q E hr h => ?_)
  · obtain ⟨q, m, N, F, nds, rfl, ⟨dq, hq⟩, ⟨dm, hm⟩, hN, hok, k⟩ := h
    rfl
  · obtain ⟨q, m, N, F, nds, rfl, ⟨dq, hq⟩, ⟨dm, hm⟩, hN, hok, k⟩ := h
    refine ⟨_, (pss_cons (pst 1 sc_Question_reached.nd (pe_disp1T (pe_me0 (pv 0) (T.cls "Stale") (T.me "Stale" "first") (ok_Question_first T) (hr.mono (by decide))) (pe_tup pa_nil)))
      (pss_cons (pst 2 sc_Question_reached.nd (pe_lst (pa_cons (pe_me0 (pv 0) (T.cls "Stale") (T.me "Stale" "first") (ok_Question_first T) (hr.mono (by decide))) pa_nil)))
      (pss_cons (pst 3 sc_Question_reached.nd pe_int)
      (pss_cons (ps_while PassesOwn.never (pt_cmpR op_lt (pv 3) (pe_callB call_len_seq (by rfl) (T.free "len") (by decide +kernel) (pa_cons (pv 2) pa_nil)) (nomark _))
        (pss_cons (ps_for PassesOwn.never rfl (pi_list (pe_me (pv 0) (T.cls "Stale") (T.me "Stale" "moves") (ok_Watch_moves T) (hr.mono (by decide)) (pa_cons (pe_ix ix_list (pv 2) (pv 3) (fun _ _ => rfl)) pa_nil))) (pg_tup rfl (pgs_cons (pgn 4 sc_Question_reached.nd) (pgs_cons (pgn 5 sc_Question_reached.nd) pgs_nil)))
          (pss_one (ps_if (pt_cmp (pc_dnotin (hu_of hr) (pv 5) (pv 1)))
            (pss_cons (ps_dput (hu_of hr) (pv 1) (pv 5) (pe_tup (StX.pa_star (pe_dget (hu_of hr) (pv 1) (pe_ix ix_list (pv 2) (pv 3) (fun _ _ => rfl)) (fun _ _ => rfl)) (pa_cons (pv 4) pa_nil))) rfl)
            (pss_one (ps_expr (pe_bm PySem.F.plainAttrs_list PySem.F.slot_list_append PySem.F.type_list_append mt_append (pv 2) (pa_cons (pv 5) pa_nil)))))
            pss_nil)))
        (pss_one (psaug 3 sc_Question_reached.nd pe_int ip_add))))
      (pss_one (ps_ret (pv 1))))))), ?_⟩
    intro D nD
    have sD := Same.new (o := .dT []) nD
    refine ⟨_, rfl, _, _, _, rfl, sD _ _ hq, rfl, _, rfl, fun a1 n1 => ⟨ll rfl, fun e1 ne1 => ⟨?_, a1, k6 s0, .ref e1, rfl, ?_, ?_⟩⟩⟩
    · exact Same.new ne1 _ _ (Same.new n1 _ _ upd_same)
    · exact Same.new ne1 _ _ upd_same
    have t1 := Same.newT (o := .tup []) (Same.newT (o := .tup (v6 s0)) sD n1) ne1
    have t2 : Same H (upd (upd (upd (upd H D (.dT [])) a1 (.tup (v6 s0))) e1 (.tup [])) D (.dT [(k6 s0, .ref e1)])) := Same.wr t1 nD
    have eD0 := upd_same (H := upd (upd (upd H D (.dT [])) a1 (.tup (v6 s0))) e1 (.tup [])) (a := D) (o := .dT [(k6 s0, .ref e1)])
    have ee1 : upd (upd (upd (upd H D (.dT [])) a1 (.tup (v6 s0))) e1 (.tup [])) D (.dT [(k6 s0, .ref e1)]) e1 = some (.tup []) := by
      have h1 : D ≠ e1 := fun e => by rw [← e] at ne1; rw [Same.new n1 _ _ (upd_same (H := H) (a := D) (o := .dT []))] at ne1; cases ne1
      rw [upd_ne (Ne.symm h1), upd_same]
    generalize upd (upd (upd (upd H D (.dT [])) a1 (.tup (v6 s0))) e1 (.tup [])) D (.dT [(k6 s0, .ref e1)]) = H0 at t2 eD0 ee1 ⊢
    refine ⟨_, rfl, _, _, _, rfl, t2 _ _ hq, rfl, _, rfl, fun a2 n2 => ⟨ll rfl, fun L nL => ?_⟩⟩
    have t3 := Same.newT (o := .lst [.ref a2]) (Same.newT (o := .tup (v6 s0)) t2 n2) nL
    have hL0 : H L = none := none_of (Same.newT (o := .tup (v6 s0)) t2 n2) nL
    have okz : Okst nds.length s0 := ⟨by have := hok.1; exact this, ⟨b0, b0, c0⟩, c0, c0⟩
    have B0 : Bf (upd (upd H0 a2 (.tup (v6 s0))) L (.lst [.ref a2])) nds D L [s0] := by
      have u := (Same.new (o := .tup (v6 s0)) n2).trans (Same.new (o := .lst [.ref a2]) nL)
      refine ⟨by simp, .head _, fun s hs => by rw [List.mem_singleton.mp hs]; exact okz, ?_, ⟨_, u _ _ eD0, rfl, fun p hp => ?_⟩, _, upd_same, .cons ⟨a2, rfl, Same.new nL _ _ upd_same⟩ .nil⟩
      · have h1 := free_add (l := []) (fun t ht => (nomatch ht)) okz (fun h => nomatch h)
        have h2 : free nds.length [] ≤ 360 := by
          unfold free
          refine Nat.le_trans (List.length_filter_le _ _) ?_
          rw [List.length_range]
          have := hok.2.1
          omega
        have h3 : ([] : List S6) ++ [s0] = [s0] := rfl
        rw [h3] at h1
        show 1 + free nds.length [s0] ≤ 360
        omega
      · rw [List.mem_singleton.mp hp]
        exact ⟨e1, [], rfl, u _ _ ee1, Nat.zero_le _⟩
    generalize upd (upd H0 a2 (.tup (v6 s0))) L (.lst [.ref a2]) = H00 at t3 B0 ⊢
    refine ⟨fun m' σ H' => ∃ line at_ u4 u5, m' = 5 * free nds.length line + (line.length - at_) ∧ at_ ≤ line.length ∧ σ = [some (.ref q), some (.ref D), some (.ref L), some (.int ((at_ : Nat) : Int)), u4, u5] ∧ Same H H' ∧ Bf H' nds D L line ∧ Clo nds line at_, ⟨_, [s0], 0, _, _, rfl, Nat.zero_le _, rfl, t3, B0, fun i hi => absurd hi (Nat.not_lt_zero _)⟩, ?_⟩
    rintro m' σ H' ⟨line, at_, u4, u5, rfl, hat, rfl, t4, B, hC⟩
    obtain ⟨refs, eL, pL⟩ := B.eL
    have hrl : refs.length = line.length := Paired.length pL
    refine ⟨_, rfl, _, rfl, _, _, rfl, .inl (.of eL), _, _, rfl, rfl, _, rfl, ?_⟩
    by_cases hlt : at_ < line.length
    · rw [decide_eq_true (by rw [hrl]; omega)]
      refine ⟨fun σ' H1 => ∃ m2, m2 < 5 * free nds.length line + (line.length - at_) ∧ (∃ line at_ u4 u5, m2 = 5 * free nds.length line + (line.length - at_) ∧ at_ ≤ line.length ∧ σ' = [some (.ref q), some (.ref D), some (.ref L), some (.int ((at_ : Nat) : Int)), u4, u5] ∧ Same H H1 ∧ Bf H1 nds D L line ∧ Clo nds line at_), fun _ _ h => h, ?_⟩
      have hst : line[at_]? = some line[at_] := List.getElem?_eq_getElem hlt
      have hmem : line[at_] ∈ line := List.getElem_mem hlt
      generalize line[at_] = st at hst hmem
      obtain ⟨v, hra, a, rfl, ha⟩ := Paired.at pL hst
      have hsok := B.ok st hmem
      refine ⟨_, rfl, _, _, _, rfl, t4 _ _ hq, rfl, _, rfl, _, rfl, _, _, _, _, rfl, rfl, .of eL, atI_nat hra, q, m, N, F, a, nds, st, rfl, ⟨_, t4 _ _ hq⟩, ⟨_, t4 _ _ hm⟩, hN.same t4, .of ha, hok, hsok.1, fun H1 M ls s1 nM eM hP => ⟨_, rfl, ⟨_, .of eM⟩, ?_⟩⟩
      have nML : M ≠ L := Ne.symm (ne_of_none eL nM)
      have hlen : ls.length = (movesP nds st).length := Paired.length hP
      refine for_it (walk_list (xs := ls)) (fun j σ H2 => ∃ line' u4 u5, σ = [some (.ref q), some (.ref D), some (.ref L), some (.int ((at_ : Nat) : Int)), u4, u5] ∧ Same H H2 ∧ Bf H2 nds D L line' ∧ (∃ ext, line' = line ++ ext) ∧ H2 M = some (.lst ls) ∧ Paired (MvT H2) ls (movesP nds st) ∧ (∀ i, i < j → ∀ x, (movesP nds st)[i]? = some x → x.2 ∈ line') ∧ 5 * free nds.length line' + line'.length ≤ 5 * free nds.length line + line.length) ?_ ?_ ?_ ?_
      · exact ⟨line, _, _, rfl, t4.trans s1, B.same s1, ⟨[], (List.append_nil _).symm⟩, eM, hP, fun i hi => absurd hi (Nat.not_lt_zero _), Nat.le_refl _⟩
      · rintro j σ H2 _ ⟨line', u4, u5, rfl, _, _, _, e, _⟩
        exact .of e
      · rintro j x σ _ H2 hj ⟨line', u4, u5, rfl, g1, g2, ⟨ext, g3⟩, g4, g5, g6, g7⟩ ⟨rfl, hx⟩
        have hj2 : j < (movesP nds st).length := by omega
        have hmv : (movesP nds st)[j]? = some (movesP nds st)[j] := List.getElem?_eq_getElem hj2
        have hmem2 : (movesP nds st)[j] ∈ movesP nds st := List.getElem_mem hj2
        generalize (movesP nds st)[j] = mv at hmv hmem2
        obtain ⟨lab, s'⟩ := mv
        obtain ⟨v, e1, c, b, rfl, e2, e3⟩ := Paired.at g5 hmv
        cases e1.symm.trans hx
        have hs' : Okst nds.length s' := movesP_ok hok hsok hmem2
        obtain ⟨kvs, eD, ek, ev⟩ := g2.eD
        obtain ⟨refs2, eL2, pL2⟩ := g2.eL
        refine ⟨_, _, rfl, .of e2, rfl, _, _, rfl, _, _, rfl, rfl, _, rfl, _, rfl, D, _, rfl, DGet.t (k := k6 s') eD e3, _, rfl, ?_⟩
        by_cases hin : s' ∈ line'
        · obtain ⟨v, hv, _⟩ := valV_some (kvs := kvs) (k := k6 s') (by rw [ek]; exact mem_k6.mpr hin)
          rw [hv]
          refine ⟨line', _, _, rfl, g1, g2, ⟨ext, g3⟩, g4, g5, fun i hi x hx9 => ?_, g7⟩
          rcases Nat.lt_succ_iff_lt_or_eq.mp hi with hi | rfl
          · exact g6 i hi x hx9
          · cases hmv.symm.trans hx9
            exact hin
        · have hv : valV kvs (k6 s') = none := valV_none (by rw [ek]; exact fun h => hin (mem_k6.mp h))
          rw [hv]
          have hst2 : st ∈ line' := by rw [g3]; exact List.mem_append_left _ hmem
          obtain ⟨w0, hw0, hw1⟩ := valV_some (kvs := kvs) (k := k6 st) (by rw [ek]; exact mem_k6.mpr hst2)
          obtain ⟨b0', xs0, rfl, hb0, hxl⟩ := ev _ hw1
          have hst3 : line'[at_]? = some st := by
            rw [g3]
            exact List.getElem?_append_left hlt ▸ hst
          obtain ⟨v2, hra2, a2', rfl, ha2⟩ := Paired.at pL2 hst3
          have hll : line'.length ≤ 360 := by have := g2.ln; omega
          have hkl : kvs.length = line'.length := by
            have := congrArg List.length ek
            rwa [List.length_map, List.length_map] at this
          refine ⟨_, rfl, _, rfl, _, rfl, _, _, _, _, rfl, rfl, .of eL2, atI_nat hra2, D, _, rfl, hw0 ▸ DGet.t (k := k6 st) eD ha2, _, _, rfl, .inl (.of hb0), _, rfl, ?_, fun t nt => ?_⟩
          · rw [List.length_append, line_eq]
            show xs0.length + 1 ≤ _
            omega
          have eD3 := Same.new (o := .tup (xs0 ++ [.int lab])) nt _ _ eD
          have eL3 := Same.new (o := .tup (xs0 ++ [.int lab])) nt _ _ eL2
          have eb3 := Same.new (o := .tup (xs0 ++ [.int lab])) nt _ _ e3
          refine ⟨_, rfl, _, rfl, D, _, rfl, DPut.t (k := k6 s') eD3 eb3 (by rw [hkl, line_eq]; omega), ?_⟩
          have eL4 : upd (upd H2 t (.tup (xs0 ++ [.int lab]))) D (.dT (putK kvs (k6 s') (.ref t))) L = some (.lst refs2) := by
            rw [upd_ne (Ne.symm (ne_of eD eL2 fun z => nomatch z))]
            exact eL3
          have hrl2 : refs2.length = line'.length := Paired.length pL2
          refine ⟨_, rfl, .inl ⟨rfl, _, .of eL4⟩, _, rfl, _, _, _, rfl, rfl, eL4, by rw [hrl2, line_eq]; omega, ?_⟩
          have hB := Bf.add g2 hs' hin e3 eD eL2 nt (ys := xs0 ++ [.int lab]) (by rw [List.length_append]; show xs0.length + 1 ≤ _; omega)
          have hf := free_add g2.ok hs' hin
          refine ⟨line' ++ [s'], _, _, rfl, Same.wr (Same.wr (Same.newT g1 nt) nD) hL0, hB, ⟨ext ++ [s'], by rw [g3, List.append_assoc]⟩, ?_, Paired.mapP g5 fun _ _ h => h.keep fun b xs hb => hold3 eD eL2 nt hb, fun i hi x hx9 => ?_, ?_⟩
          · rw [upd_ne nML, upd_ne (ne_of g4 eD fun z => nomatch z), upd_ne (ne_of_none g4 nt)]
            exact g4
          · rcases Nat.lt_succ_iff_lt_or_eq.mp hi with hi | rfl
            · exact List.mem_append_left _ (g6 i hi x hx9)
            · cases hmv.symm.trans hx9
              simp
          · rw [List.length_append]
            simp only [List.length_singleton]
            omega
      · rintro σ H2 ⟨line', u4, u5, rfl, g1, g2, ⟨ext, g3⟩, g4, g5, g6, g7⟩
        have hle : line.length ≤ line'.length := by rw [g3, List.length_append]; omega
        refine ⟨_, rfl, _, _, rfl, rfl, ?_⟩
        refine ⟨5 * free nds.length line' + (line'.length - (at_ + 1)), by omega, line', at_ + 1, _, _, rfl, by omega, rfl, g1, g2, fun i hi s hs x hx => ?_⟩
        rcases Nat.lt_succ_iff_lt_or_eq.mp hi with hi | rfl
        · have hs2 : line[i]? = some s := by
            rw [g3, List.getElem?_append_left (Nat.lt_trans hi hlt)] at hs
            exact hs
          rw [g3]
          exact List.mem_append_left _ (hC i hi s hs2 x hx)
        · have hs2 : s = st := by
            rw [g3, List.getElem?_append_left hlt, hst] at hs
            exact (Option.some.inj hs).symm
          subst hs2
          obtain ⟨i2, hi2⟩ := List.mem_iff_getElem?.mp hx
          exact g6 i2 (by rw [hlen]; exact (List.getElem?_eq_some_iff.mp hi2).1) x hi2
    · rw [decide_eq_false (by rw [hrl]; omega)]
      obtain ⟨kvs, eD, ek, ev⟩ := B.eD
      refine ⟨_, rfl, k _ D kvs line t4 nD eD ek (fun p hp => ?_) B.z (fun s hs => (B.ok s hs).1) (fun s hs x hx => ?_)⟩
      · obtain ⟨b, xs, h, _⟩ := ev p hp
        exact ⟨b, h⟩
      · obtain ⟨i, hi⟩ := List.mem_iff_getElem?.mp hs
        exact hC i (Nat.lt_of_lt_of_le (List.getElem?_eq_some_iff.mp hi).1 (Nat.le_of_not_lt hlt)) s hi x hx
def sp_Question_run (K : PySem.W.Frag) : Sp := fun vs H Q E => ∃ q m N F nds fs, vs = [.ref q] ∧ IsStale K H q m ∧ Mir K H m N F ∧ NodesT K H N nds ∧ OkNds nds ∧ SqT K H F (fV fs) ∧ ∀ (H' : Hp) (v : V) (line : List S6), Same H H' → s0 ∈ line → (∀ s : S6, s ∈ line → ∀ x ∈ movesP nds s, x.2 ∈ line) → (v = .non → ∀ s : S6, s ∈ line → ¬ (s.1 ∈ fs ∧ s.2.1.1 = 0 ∧ s.2.2.1 = 0 ∧ s.2.2.2 = 0)) → (v = .non ∨ ∃ b, v = .ref b) → Q v H'
theorem sc_Question_run : FnScope ["self", "state", "run"] ["self"] (defScope s_Question_run) := ⟨rfl, rfl, rfl, by decide +kernel, rfl, by decide +kernel, by decide +kernel⟩
theorem ok_Question_run (T : TX w K mg) : FnR P w K mg base CX0 6 (a_Question_run K) (sp_Question_run K) := by
  obtain ⟨fd, F⟩ := T.fn 20 rfl rfl
  refine fR F sc_Question_run (fun _ _ _ _ _ _ us hl => match us, hl with | [_], _ => rfl) (fun vs H Q E h => ?_) (fun cdv A outer s H vs Q E hr h => ?_)
  · obtain ⟨q, m, N, F, nds, fs, rfl, ⟨dq, hq⟩, ⟨dm, hm⟩, hN, hok, hF, k⟩ := h
    rfl
  · obtain ⟨q, m, N, F, nds, fs, rfl, ⟨dq, hq⟩, ⟨dm, hm⟩, hN, hok, hF, k⟩ := h
    refine ⟨_, (pss_cons (ps_for PassesOwn.never rfl (pi_itemsT (pe_me0 (pv 0) (T.cls "Stale") (T.me "Stale" "reached") (ok_Question_reached T) (hr.mono (by decide)))) (pg_tup rfl (pgs_cons (pgn 1 sc_Question_run.nd) (pgs_cons (pgn 2 sc_Question_run.nd) pgs_nil)))
        (pss_one (ps_if (pt_val (pe_me (pv 0) (T.cls "Stale") (T.me "Stale" "is_bad") (ok_Stale_is_bad T) (hr.mono (by decide)) (pa_cons (pv 1) pa_nil)))
          (pss_one (ps_ret (pv 2)))
          pss_nil)))
      (pss_one (ps_ret pe_non))), ?_⟩
    refine ⟨_, rfl, _, _, _, rfl, hq, rfl, q, m, N, F, nds, rfl, ⟨_, hq⟩, ⟨_, hm⟩, hN, hok, fun H1 D kvs line s1 nD eD ek ev hz hl hc => ⟨D, kvs, rfl, eD, fun od => ?_⟩⟩
    have s2 : Same H (upd H1 D (.frz od (.dT kvs))) := Same.wr s1 nD
    refine for_it walk_itemsT (fun i σ H' => ∃ u1 u2, σ = [some (.ref q), u1, u2] ∧ Same H H' ∧ H' D = some (.frz od (.dT kvs)) ∧ ∀ j, j < i → ∀ s, line[j]? = some s → ¬ (s.1 ∈ fs ∧ s.2.1.1 = 0 ∧ s.2.2.1 = 0 ∧ s.2.2.2 = 0)) ?_ ?_ ?_ ?_
    · exact ⟨_, _, rfl, s2, upd_same, fun j hj => absurd hj (Nat.not_lt_zero _)⟩
    · rintro i σ H' _ ⟨u1, u2, rfl, _, e, _⟩
      exact e
    · rintro i x σ H2 _ hi ⟨u1, u2, rfl, g1, g2, g3⟩ ⟨T', kk, v, b, hk, rfl, nT, eb, rfl⟩
      have hi2 : i < line.length := by
        have := congrArg List.length ek
        rw [List.length_map, List.length_map] at this
        omega
      have hst : line[i]? = some line[i] := List.getElem?_eq_getElem hi2
      have hkk : kk = k6 line[i] := by
        have h1 : (List.map Prod.fst kvs)[i]? = some kk := by rw [List.getElem?_map, hk]; rfl
        rw [ek, List.getElem?_map, hst] at h1
        exact (Option.some.inj h1).symm
      have hlt := hl _ (List.getElem_mem hi2)
      generalize line[i] = st at hst hkk hlt
      subst hkk
      obtain ⟨b2, hv⟩ := ev _ (List.mem_of_getElem? hk)
      have hv : v = .ref b2 := hv
      subst hv
      have t5 := Same.newT (o := .tup [.ref b, .ref b2]) g1 nT
      have eb5 := Same.new (o := .tup [.ref b, .ref b2]) nT _ _ eb
      refine ⟨_, _, rfl, .of upd_same, rfl, _, _, rfl, _, _, rfl, rfl, _, rfl, _, _, _, rfl, t5 _ _ hq, rfl, _, rfl, q, m, N, F, b, fs, st, rfl, ⟨_, t5 _ _ hq⟩, ⟨_, t5 _ _ hm⟩, Same.tup t5 hF, .of eb5, _, rfl, ?_⟩
      by_cases hbad : st.1 ∈ fs ∧ st.2.1.1 = 0 ∧ st.2.2.1 = 0 ∧ st.2.2.2 = 0
      · rw [decide_eq_true hbad]
        exact ⟨_, rfl, k _ _ line t5 hz hc (fun h => nomatch h) (.inr ⟨b2, rfl⟩)⟩
      · rw [decide_eq_false hbad]
        refine ⟨_, _, rfl, t5, Same.new nT _ _ g2, fun j hj s hs => ?_⟩
        rcases Nat.lt_succ_iff_lt_or_eq.mp hj with hj | rfl
        · exact g3 j hj s hs
        · cases hst.symm.trans hs
          exact hbad
    · rintro σ H2 ⟨u1, u2, rfl, g1, g2, g3⟩
      refine k _ _ line g1 hz hc (fun _ s hs => ?_) (.inl rfl)
      obtain ⟨i, hi⟩ := List.mem_iff_getElem?.mp hs
      refine g3 i ?_ s hi
      have := congrArg List.length ek
      rw [List.length_map, List.length_map] at this
      have := (List.getElem?_eq_some_iff.mp hi).1
      omega
    
end
end CN
end
section
set_option Elab.async false
set_option linter.all false
set_option maxRecDepth 100000
set_option maxHeartbeats 4000000
namespace CN
open PySem PySem.Spec PyProof.Rows L2
local macro_rules | `(tactic| trivial) => `(tactic| exact Led.get (by assumption) 9)
local macro_rules | `(tactic| trivial) => `(tactic| exact Led.get (by assumption) 8)
local macro_rules | `(tactic| trivial) => `(tactic| exact Led.get (by assumption) 7)
local macro_rules | `(tactic| trivial) => `(tactic| exact Led.get (by assumption) 6)
local macro_rules | `(tactic| trivial) => `(tactic| exact Led.get (by assumption) 5)
local macro_rules | `(tactic| trivial) => `(tactic| exact Led.get (by assumption) 4)
local macro_rules | `(tactic| trivial) => `(tactic| exact Led.get (by assumption) 3)
local macro_rules | `(tactic| trivial) => `(tactic| exact Led.get (by assumption) 2)
local macro_rules | `(tactic| trivial) => `(tactic| exact Led.get (by assumption) 1)
local macro_rules | `(tactic| trivial) => `(tactic| exact Led.get (by assumption) 0)
section
variable {P : Program} {w : World} {K : PySem.W.Frag} {mg : Str → Option Value} {base : Heap}
/-! ### runs -/
def Wk (nds : Nds) : Nat → List Int → Option Nat
  | n, [] => some n
  | n, l :: r => (edgeAt nds n l).bind fun e => Wk nds e.2 r
theorem Wk_snoc {nds : Nds} {l : Int} : ∀ {r : List Int} {n m : Nat} {e : Str × Nat}, Wk nds n r = some m → edgeAt nds m l = some e → Wk nds n (r ++ [l]) = some e.2
  | [], n, m, e, h, h2 => by
    cases h
    show (edgeAt nds n l).bind _ = _
    rw [h2]
    rfl
  | x :: r, n, m, e, h, h2 => by
    obtain ⟨f, f1, f2⟩ := Option.bind_eq_some_iff.mp (show (edgeAt nds n x).bind (fun e => Wk nds e.2 r) = some m from h)
    show (edgeAt nds n x).bind (fun e => Wk nds e.2 (r ++ [l])) = _
    rw [f1]
    exact Wk_snoc f2 h2
theorem Wk_take {nds : Nds} : ∀ {r : List Int} {n m : Nat} (k : Nat), Wk nds n r = some m → ∃ m', Wk nds n (r.take k) = some m'
  | _, n, _, 0, _ => ⟨n, by rw [List.take_zero]; rfl⟩
  | [], n, _, k + 1, _ => ⟨n, rfl⟩
  | x :: r, n, m, k + 1, h => by
    obtain ⟨f, f1, f2⟩ := Option.bind_eq_some_iff.mp (show (edgeAt nds n x).bind (fun e => Wk nds e.2 r) = some m from h)
    obtain ⟨m', q⟩ := Wk_take k f2
    refine ⟨m', ?_⟩
    rw [List.take_succ_cons]
    show (edgeAt nds n x).bind (fun e => Wk nds e.2 (r.take k)) = _
    rw [f1]
    exact q
theorem Wk_replay {nds : Nds} : ∀ {r : List Int} {n m : Nat} (s : VS), Wk nds n r = some m → ∃ s', replay nds n s r = some (m, s')
  | [], n, m, s, h => by
    cases h
    exact ⟨s, rfl⟩
  | x :: r, n, m, s, h => by
    obtain ⟨f, f1, f2⟩ := Option.bind_eq_some_iff.mp (show (edgeAt nds n x).bind (fun e => Wk nds e.2 r) = some m from h)
    obtain ⟨s', q⟩ := Wk_replay (afterV s f.1) f2
    refine ⟨s', ?_⟩
    show (edgeAt nds n x).bind (fun e => replay nds e.2 (afterV s e.1) r) = _
    rw [f1]
    exact q
theorem Wk_steps {nds : Nds} : ∀ {r : List Int} {n m : Nat}, Wk nds n r = some m → ∃ zs, stepsOf nds n r = some zs
  | [], n, m, _ => ⟨[], rfl⟩
  | x :: r, n, m, h => by
    obtain ⟨f, f1, f2⟩ := Option.bind_eq_some_iff.mp (show (edgeAt nds n x).bind (fun e => Wk nds e.2 r) = some m from h)
    obtain ⟨zs, q⟩ := Wk_steps f2
    refine ⟨f.1 :: zs, ?_⟩
    show (edgeAt nds n x).bind (fun e => (stepsOf nds e.2 r).map (e.1 :: ·)) = _
    rw [f1]
    show (stepsOf nds f.2 r).map _ = _
    rw [q]
    rfl
theorem cut_take {xs : List V} {k : Nat} (h : k ≤ xs.length) : cutV xs none (some (k : Int)) = xs.take k := by
  unfold cutV
  rw [show HT.sIx xs.length xs.length (some (k : Int)) = min k xs.length from HT.sIx_nat _ _ k, show HT.sIx xs.length 0 none = 0 from rfl, List.drop_zero, Nat.min_eq_left h]
  rfl
theorem slTake {H : Hp} {a : Addr} {xs : List V} {k : Nat} {Q : VK} (ha : SqT K H a xs) (hk : k ≤ xs.length) (hq : ∀ H' r, Same H H' → SqT K H' r (xs.take k) → Q (.ref r) H') : rSlA K (.ref a) none (some (k : Int)) H Q := by
  refine ⟨a, xs, rfl, ha, fun hw => hq _ _ (fun _ _ e => e) ?_, fun _ p hp => hq _ _ (Same.new hp) (.of ?_)⟩
  · have h2 := hw.2
    rw [show HT.sIx xs.length xs.length (some (k : Int)) = min k xs.length from HT.sIx_nat _ _ k, Nat.min_eq_left hk] at h2
    rw [h2, List.take_length]
    exact ha
  · rw [cut_take hk]
    exact upd_same
def iV (run : List Int) : List V := List.map V.int run
def sp__law_is_wrong (K : PySem.W.Frag) : Sp := fun vs H Q E => ∃ a nds b run n s, vs = [.ref a, .ref b] ∧ NodesT K H a nds ∧ SqT K H b (List.map V.int run) ∧ run.length < 400 ∧ replay nds 0 startV run = some (n, s) ∧ s.wt.length < 1000 ∧ ∀ H', Same H H' → Q (.bl (!decide ((afterV s "receive").cp = (afterV s "receive").pr))) H'
theorem sc__law_is_wrong : FnScope ["_law_nodes", "_law_run", "_law_node", "_law_state", "_law_present", "_law_copy", "_law_listens", "_law_waiting", "_law_work"] ["_law_nodes", "_law_run"] (defScope s__law_is_wrong) := ⟨rfl, rfl, rfl, by decide +kernel, rfl, by decide +kernel, by decide +kernel⟩
theorem ok__law_is_wrong (T : TX w K mg) : FnR P w K mg base CX0 4 (a__law_is_wrong K) (sp__law_is_wrong K) := by
  obtain ⟨fd, F⟩ := T.fn 87 rfl rfl
  refine fR F sc__law_is_wrong (fun _ _ _ _ _ _ us hl => match us, hl with | [_, _], _ => rfl) (fun vs H Q E h => ?_) (fun cdv A outer s H vs Q E hr h => ?_)
  · obtain ⟨a, nds, b, run, n, s, rfl, ha, hb, hl, he, hw, k⟩ := h
    rfl
  · obtain ⟨a, nds, b, run, n, s, rfl, ha, hb, hl, he, hw, k⟩ := h
    refine ⟨_, (pss_cons (ps_asg (pe_cf (ok__law_replayed T) (hr.mono (by decide)) (by rfl) (T.gf "_law_replayed") (pa_cons (pv 0) (pa_cons (pv 1) pa_nil))) (pg_tup rfl (pgs_cons (pgn 2 sc__law_is_wrong.nd) (pgs_cons (pgn 3 sc__law_is_wrong.nd) pgs_nil))))
      (pss_cons (ps_asg (pe_cf (ok__law_after T) (hr.mono (by decide)) (by rfl) (T.gf "_law_after") (pa_cons (pv 3) (pa_cons pe_str pa_nil))) (pg_tup rfl (pgs_cons (pgn 4 sc__law_is_wrong.nd) (pgs_cons (pgn 5 sc__law_is_wrong.nd) (pgs_cons (pgn 6 sc__law_is_wrong.nd) (pgs_cons (pgn 7 sc__law_is_wrong.nd) (pgs_cons (pgn 8 sc__law_is_wrong.nd) pgs_nil)))))))
      (pss_one (ps_ret (pe_cmpR op_ne (pv 5) (pv 4) (nomark _)))))), ?_⟩
    refine ⟨_, rfl, _, rfl, _, _, _, _, _, _, rfl, ha, hb, by omega, he, fun H1 r c s1 hr hc => ⟨_, _, rfl, hr, rfl, _, _, rfl, _, _, rfl, rfl, _, rfl, _, _, _, rfl, hc, hw, fun H2 r2 s2 ⟨b2, v2, g1, g2, g3⟩ => ?_⟩⟩
    refine ⟨_, _, rfl, g1, rfl, _, _, rfl, _, _, rfl, _, _, rfl, _, _, rfl, _, _, rfl, rfl, _, rfl, _, rfl, rfl, ?_⟩
    have e : decide (V.int (afterV s "receive").cp = V.int (afterV s "receive").pr) = decide ((afterV s "receive").cp = (afterV s "receive").pr) := by
      by_cases h : (afterV s "receive").cp = (afterV s "receive").pr
      · rw [iT h, decide_eq_true h]
      · rw [iF h, decide_eq_false h]
    have k := k _ (s1.trans s2)
    rw [← e] at k
    exact k
def sp__law_mirror_drawn (K : PySem.W.Frag) : Sp := fun vs H Q E => ∃ p a nds, vs = [.ref p, .ref a, .int 16] ∧ Pen H p ∧ NodesT K H a nds ∧ OkNds nds ∧ ∀ H' r run m, Dw p H H' → SqT K H' r (List.map V.int run) → run.length ≤ 16 → Wk nds 0 run = some m → Q (.ref r) H'
theorem sc__law_mirror_drawn : FnScope ["_law_pen_here", "_law_nodes", "_law_most", "_law_at", "_law_found", "_law_turn", "_law_label"] ["_law_pen_here", "_law_nodes", "_law_most"] (defScope s__law_mirror_drawn) := ⟨rfl, rfl, rfl, by decide +kernel, rfl, by decide +kernel, by decide +kernel⟩
theorem ok__law_mirror_drawn (T : TX w K mg) : FnR P w K mg base CX0 3 (a__law_mirror_drawn K) (sp__law_mirror_drawn K) := by
  obtain ⟨fd, F⟩ := T.fn 86 rfl rfl
  refine fR F sc__law_mirror_drawn (fun _ _ _ _ _ _ us hl => match us, hl with | [_, _, _], _ => rfl) (fun vs H Q E h => ?_) (fun cdv A outer s H vs Q E hr h => ?_)
  · obtain ⟨p, a, nds, rfl, hp, ha, hok, k⟩ := h
    rfl
  · obtain ⟨p, a, nds, rfl, hp, ha, hok, k⟩ := h
    refine ⟨_, (pss_cons (ps_par (i := 3) (j := 4) rfl sc__law_mirror_drawn.nd rfl rfl (by decide) rfl rfl (pa_cons pe_int (pa_cons (pe_lst pa_nil) pa_nil)) rfl)
      (pss_cons (ps_for PassesOwn.never rfl (pi_range1 rfl (T.free "range") (pa_cons (pe_cf (ok__law_draw T) (hr.mono (by decide)) (by rfl) (T.gf "_law_draw") (pa_cons (pv 0) (pa_cons (pe_op op_add (pv 2) pe_int) pa_nil))) pa_nil)) (pgn 5 sc__law_mirror_drawn.nd)
        (pss_cons (pst 6 sc__law_mirror_drawn.nd (pe_op op_sub (pe_cf (ok__law_draw T) (hr.mono (by decide)) (by rfl) (T.gf "_law_draw") (pa_cons (pv 0) (pa_cons (pe_op op_add (pe_callB call_len_seq (by rfl) (T.free "len") (by decide +kernel) (pa_cons (pe_ix ix_tup (pv 1) (pv 3) (fun _ _ => rfl)) pa_nil)) pe_int) pa_nil))) pe_int))
        (pss_cons (ps_expr (pe_bm PySem.F.plainAttrs_list PySem.F.slot_list_append PySem.F.type_list_append mt_append (pv 4) (pa_cons (pv 6) pa_nil)))
        (pss_one (pst 3 sc__law_mirror_drawn.nd (pe_ifExp (pt_cmpR op_eq (pv 6) (pe_un un_neg pe_int) (nomark _)) (pv 3) (pe_ix ix_tup (pe_ix ix_tup (pe_ix ix_tup (pv 1) (pv 3) (fun _ _ => rfl)) (pv 6) (fun _ _ => rfl)) pe_int (fun _ _ => rfl))))))))
      (pss_one (ps_ret (pe_callTy call_tuple_of (by rfl) (T.free "tuple") (by decide +kernel) (pa_cons (pv 4) pa_nil)))))), ?_⟩
    refine ⟨ll rfl, fun L nL => ⟨_, _, rfl, ?_⟩⟩
    have hp1 := hp.same (Same.new (o := .lst []) nL)
    refine ⟨_, rfl, _, rfl, _, _, rfl, rfl, _, _, rfl, hp1, by decide, by decide, fun H1 r1 d1 r10 r11 => ⟨_, rfl, by omega, by omega, ?_⟩⟩
    have nLp : L ∉ [p] := by simpa using hp.ne nL
    have d0 : Dw p H H1 := (Dw.same hp (Same.new nL)).trans d1
    refine for_it walk_range (fun i σ H' => ∃ run n' u5 u6, σ = [some (.ref p), some (.ref a), some (.int 16), some (.int ((n' : Nat) : Int)), some (.ref L), u5, u6] ∧ Dw p H H' ∧ H' L = some (.lst (List.map V.int run)) ∧ run.length = i ∧ Wk nds 0 run = some n' ∧ n' < nds.length) ?_ (fun _ _ _ _ _ => True.intro) ?_ ?_
    · exact ⟨[], 0, _, _, rfl, d0, d1.f _ _ upd_same nLp, rfl, rfl, hok.1⟩
    · rintro i x σ _ H2 hi ⟨run, n', u5, u6, rfl, g1, g2, g3, g4, g5⟩ ⟨rfl, rfl⟩
      obtain ⟨xs, ha1, ha2⟩ := ha.dw g1
      obtain ⟨x, k1, nd, ys, rfl, k2, k3⟩ := Paired.at ha2 (List.getElem?_eq_getElem g5)
      have hle := (hok.2.2 _ (List.getElem_mem g5)).1
      have hly : ys.length = nds[n'].length := Paired.length k3
      have hi16 : i < 17 := by omega
      refine ⟨_, rfl, _, rfl, _, rfl, _, _, _, _, rfl, rfl, ha1, atI_nat k1, _, _, rfl, .inr k2, _, _, rfl, rfl, _, _, rfl, g1.n, by omega, by omega, fun H3 r3 d3 r30 r31 => ⟨_, _, rfl, rfl, ?_⟩⟩
      have g23 := d3.f _ _ g2 nLp
      refine ⟨_, rfl, .inl ⟨rfl, _, .of g23⟩, _, rfl, _, _, _, rfl, rfl, g23, by rw [List.length_map, g3, line_eq]; omega, ?_⟩
      have k23 := Tk.upd (K := K) (o := .lst (List.map V.int run ++ [.int (r3 - 1)])) g23
      by_cases h : r3 - 1 = -1
      · refine ⟨_, rfl, _, rfl, rfl, true, congrArg V.bl (iT h), _, rfl, ?_⟩
        refine ⟨run ++ [r3 - 1], n', _, _, rfl, (g1.trans d3).wr nL, ?_, by rw [List.length_append, g3]; rfl, Wk_snoc (e := ("other", n')) g4 (by unfold edgeAt; rw [if_pos h]), g5⟩
        rw [upd_same, List.map_append]
        rfl
      · have h0 : ¬ (r3 - 1 < 0) := by omega
        have hidx : (r3 - 1).toNat < nds[n'].length := by omega
        have el : (((r3 - 1).toNat : Nat) : Int) = r3 - 1 := by omega
        obtain ⟨y, k4, ed, rfl, k5⟩ := Paired.at k3 (List.getElem?_eq_getElem hidx)
        have hed := ((hok.2.2 _ (List.getElem_mem g5)).2 _ (List.getElem_mem hidx)).2
        refine ⟨_, rfl, _, rfl, rfl, false, congrArg V.bl (iF h), ?_⟩
        refine ⟨_, rfl, _, rfl, _, _, _, _, rfl, rfl, k23 _ _ (d3.tup ha1), atI_nat k1, _, rfl, _, _, _, _, rfl, rfl, k23 _ _ (d3.tup k2), by rw [← el]; exact atI_nat k4, _, _, _, _, rfl, rfl, k23 _ _ (d3.tup k5), rfl, ?_⟩
        refine ⟨run ++ [r3 - 1], nds[n'][(r3 - 1).toNat].2, _, _, rfl, (g1.trans d3).wr nL, ?_, by rw [List.length_append, g3]; rfl, Wk_snoc (e := nds[n'][(r3 - 1).toNat]) g4 ?_, hed⟩
        · rw [upd_same, List.map_append]
          rfl
        · unfold edgeAt
          rw [if_neg h, if_neg h0, List.getElem?_eq_getElem g5]
          exact List.getElem?_eq_getElem hidx
    · rintro σ H2 ⟨run, n', u5, u6, rfl, g1, g2, g3, g4, g5⟩
      exact ⟨_, rfl, _, _, rfl, .inl ⟨.of g2, fun t nt => k _ _ run n' (g1.thn (Same.new nt)) (.of upd_same) (by omega) g4⟩⟩
theorem inV_fV {n : Nat} {fs : List Nat} : inV (.int ((n : Nat) : Int)) (fV fs) = decide (n ∈ fs) := by
  unfold inV fV
  rw [List.any_map, Bool.eq_iff_iff, List.any_eq_true, decide_eq_true_iff]
  constructor
  · rintro ⟨j, h1, h2⟩
    have h3 : ((j : Nat) : Int) = (n : Int) := eq_of_beq (show (((j : Nat) : Int) == (n : Int)) = true from h2)
    have h4 : j = n := by omega
    rwa [h4] at h1
  · intro h
    exact ⟨n, h, (beq_self_eq_true (n : Int) : ((n : Int) == (n : Int)) = true)⟩
theorem fV_flat (fs : List Nat) : (fV fs).all flatV = true := by
  rw [fV, List.all_map]
  exact List.all_eq_true.mpr fun _ _ => rfl
def sp__law_cut_at_rest (K : PySem.W.Frag) : Sp := fun vs H Q E => ∃ a f b nds fs run m, vs = [.ref a, .ref f, .ref b] ∧ NodesT K H a nds ∧ SqT K H f (fV fs) ∧ SqT K H b (List.map V.int run) ∧ run.length ≤ 16 ∧ Wk nds 0 run = some m ∧ ∀ (H' : Hp) (v : V), Same H H' → (v = .non ∨ ∃ r k n s, v = .ref r ∧ k ≤ run.length ∧ SqT K H' r (List.map V.int (run.take k)) ∧ replay nds 0 startV (run.take k) = some (n, s) ∧ n ∈ fs ∧ s.wk = none) → Q v H'
theorem sc__law_cut_at_rest : FnScope ["_law_nodes", "_law_finals_here", "_law_run", "_law_many", "_law_node", "_law_state"] ["_law_nodes", "_law_finals_here", "_law_run"] (defScope s__law_cut_at_rest) := ⟨rfl, rfl, rfl, by decide +kernel, rfl, by decide +kernel, by decide +kernel⟩
theorem ok__law_cut_at_rest (T : TX w K mg) : FnR P w K mg base CX0 4 (a__law_cut_at_rest K) (sp__law_cut_at_rest K) := by
  obtain ⟨fd, F⟩ := T.fn 85 rfl rfl
  refine fR F sc__law_cut_at_rest (fun _ _ _ _ _ _ us hl => match us, hl with | [_, _, _], _ => rfl) (fun vs H Q E h => ?_) (fun cdv A outer s H vs Q E hr h => ?_)
  · obtain ⟨a, f, b, nds, fs, run, m, rfl, ha, hf, hb, hl, hw, k⟩ := h
    rfl
  · obtain ⟨a, f, b, nds, fs, run, m, rfl, ha, hf, hb, hl, hw, k⟩ := h
    refine ⟨_, (pss_cons (ps_for PassesOwn.never rfl (pi_range3 rfl (T.free "range") (pa_cons (pe_callB call_len_seq (by rfl) (T.free "len") (by decide +kernel) (pa_cons (pv 2) pa_nil)) (pa_cons (pe_un un_neg pe_int) (pa_cons (pe_un un_neg pe_int) pa_nil)))) (pgn 3 sc__law_cut_at_rest.nd)
        (pss_cons (ps_asg (pe_cf (ok__law_replayed T) (hr.mono (by decide)) (by rfl) (T.gf "_law_replayed") (pa_cons (pv 0) (pa_cons (pe_slice sl_tupA (pv 2) po_none (po_some (pv 3))) pa_nil))) (pg_tup rfl (pgs_cons (pgn 4 sc__law_cut_at_rest.nd) (pgs_cons (pgn 5 sc__law_cut_at_rest.nd) pgs_nil))))
        (pss_one (ps_if (PW.pt (pw_and (pt_cmpR op_in_seq (pv 4) (pv 1) (by rfl)) (pw_and1 (pt_cmpR op_isN (pe_ix ix_tup (pv 5) pe_int (fun _ _ => rfl)) pe_non (nomark _)))))
          (pss_one (ps_ret (pe_slice sl_tupA (pv 2) po_none (po_some (pv 3)))))
          pss_nil))))
      (pss_one (ps_ret pe_non))), ?_⟩
    refine ⟨_, rfl, _, _, rfl, .inr hb, _, rfl, _, rfl, _, _, _, _, rfl, RgC.neg ?_ ?_ (by decide) (by decide), ?_⟩
    · rw [List.length_map]; omega
    · rw [List.length_map]; omega
    refine for_it walk_rangeC (fun i σ H' => ∃ u3 u4 u5, σ = [some (.ref a), some (.ref f), some (.ref b), u3, u4, u5] ∧ Same H H') ⟨_, _, _, rfl, fun _ _ e => e⟩ (fun _ _ _ _ _ => True.intro) ?_ ?_
    · rintro i x σ _ H2 hi ⟨u3, u4, u5, rfl, g1⟩ ⟨rfl, rfl⟩
      rw [List.length_map] at hi
      have hi2 : i ≤ run.length := by omega
      have ek : ((List.map V.int run).length : Int) + (i : Nat) * (-1) = ((run.length - i : Nat) : Int) := by rw [List.length_map]; omega
      obtain ⟨m', hm'⟩ := Wk_take (run.length - i) hw
      obtain ⟨s', hs'⟩ := Wk_replay startV hm'
      refine ⟨_, rfl, _, rfl, _, rfl, _, congrArg V.int ek, slTake (Same.tup g1 hb) (by rw [List.length_map]; omega) fun H3 r s3 hr => ?_⟩
      rw [← List.map_take] at hr
      refine ⟨_, _, _, _, _, _, rfl, ha.same (g1.trans s3), hr, by rw [List.length_take]; omega, hs', fun H4 r4 c s4 hr4 hc4 => ⟨_, _, rfl, hr4, rfl, _, _, rfl, _, _, rfl, rfl, ?_⟩⟩
      have t4 := (g1.trans s3).trans s4
      refine ⟨_, rfl, _, rfl, _, _, rfl, .inr (Same.tup t4 hf), rfl, fV_flat fs, _, rfl, ?_⟩
      show ite (inV (.int ((m' : Nat) : Int)) (fV fs) = true) _ _
      rw [inV_fV]
      by_cases h1 : m' ∈ fs
      · rw [if_pos (decide_eq_true h1)]
        obtain ⟨b5, v5, f1, f2, f3⟩ := hc4
        refine ⟨_, rfl, _, _, _, _, rfl, rfl, f1, rfl, rfl, _, rfl, ?_⟩
        cases hwk : s'.wk with
        | none =>
          rw [hwk] at f3
          obtain rfl : v5 = .non := f3
          rw [decide_eq_true rfl]
          refine ⟨_, rfl, _, rfl, _, congrArg V.int ek, slTake (Same.tup t4 hb) (by rw [List.length_map]; omega) fun H5 r5 s5 hr5 => ?_⟩
          rw [← List.map_take] at hr5
          exact k _ _ (t4.trans s5) (.inr ⟨r5, run.length - i, m', s', rfl, by omega, hr5, hs', h1, hwk⟩)
        | some z =>
          rw [hwk] at f3
          obtain ⟨x, y⟩ := z
          obtain ⟨d, rfl, _⟩ := f3
          rw [decide_eq_false (fun h => nomatch h)]
          exact ⟨_, _, _, rfl, t4⟩
      · rw [if_neg (by rw [decide_eq_false h1]; decide)]
        exact ⟨_, _, _, rfl, t4⟩
    · rintro σ H2 ⟨u3, u4, u5, rfl, g1⟩
      exact k _ _ g1 (.inl rfl)
    
end
end CN
end
section
set_option Elab.async false
set_option linter.all false
set_option maxRecDepth 100000
set_option maxHeartbeats 4000000
namespace CN
open PySem PySem.Spec PyProof.Rows L2
local macro_rules | `(tactic| trivial) => `(tactic| exact Led.get (by assumption) 9)
local macro_rules | `(tactic| trivial) => `(tactic| exact Led.get (by assumption) 8)
local macro_rules | `(tactic| trivial) => `(tactic| exact Led.get (by assumption) 7)
local macro_rules | `(tactic| trivial) => `(tactic| exact Led.get (by assumption) 6)
local macro_rules | `(tactic| trivial) => `(tactic| exact Led.get (by assumption) 5)
local macro_rules | `(tactic| trivial) => `(tactic| exact Led.get (by assumption) 4)
local macro_rules | `(tactic| trivial) => `(tactic| exact Led.get (by assumption) 3)
local macro_rules | `(tactic| trivial) => `(tactic| exact Led.get (by assumption) 2)
local macro_rules | `(tactic| trivial) => `(tactic| exact Led.get (by assumption) 1)
local macro_rules | `(tactic| trivial) => `(tactic| exact Led.get (by assumption) 0)
section
variable {P : Program} {w : World} {K : PySem.W.Frag} {mg : Str → Option Value} {base : Heap}
class POk (P : Program) : Prop where
  file : ((P.main.file : Str) == Str.ofString "/claim/cut.py") = true
  top : (P.main.scope.names.lookup ("super" : Str)).isSome = false
theorem fn_in (T : TX w K mg) (i : Nat) {d : DC} (h : ds[i]? = some d) (hc : d.cl = none) : PySem.W.fnIn K (d.ad K) = true := by
  obtain ⟨fd, F⟩ := T.fn i h hc
  obtain ⟨oc, od, dV, kV, doc, pm, an, cdv, ct, osl, rfl, lk, _⟩ := F.ex
  unfold PySem.W.fnIn
  rw [lk]
theorem supB {K : PySem.W.Frag} {C D G : Str} (h : superB C D G K = true) : (PySem.W.clsIn K (He.ga K D)).isSome = true ∧ PySem.W.mroIn K (He.ga K C) (.ref (He.ga K D)) = some true ∧
    PySem.W.ks_superIn K (He.ga K C) (He.ga K D) "__init__" = some (some (.ref (He.ma K (He.ga K G) "__init__"))) ∧ PySem.W.typeIn K (.ref (He.ma K (He.ga K G) "__init__")) = some (.type "function") ∧ PySem.W.nsIn K cStatics "thirdparty.any" = some none := by
  obtain ⟨h1, h⟩ := He.ba h
  obtain ⟨h2, h⟩ := He.ba h
  obtain ⟨h3, h⟩ := He.ba h
  obtain ⟨h4, h5⟩ := He.ba h
  exact ⟨h1, of_decide_eq_true h2, He.eqO_ok h3, of_decide_eq_true h4, He.eqO_ok h5⟩
def sp_Mirror___init__ (K : PySem.W.Frag) : Sp := fun vs H Q E => ∃ m dx a nds f fs, vs = [.ref m, .ref a, .ref f] ∧ H m = some (.ins (He.ga K "Mirror") dx []) ∧ NodesT K H a nds ∧ OkNds nds ∧ SqT K H f (fV fs) ∧ fs.Pairwise (· < ·) ∧ (∀ j ∈ fs, j < nds.length) ∧ fs.length < 1000 ∧
  ∀ H', Fr [m] H H' → H' m = some (.ins (He.ga K "Mirror") dx [("nodes", .ref a), ("finals", .ref f)]) → Q .non H'
theorem sc_Mirror___init__ : NdefX.NScope ["self", "nodes", "finals", "__class__"] ["self", "nodes", "finals"] ["__class__"] (defScope s_Mirror___init__) := NdefX.nscope_by (by decide +kernel)
theorem ok_Mirror___init__ [hP : POk P] (T : TX w K mg) : FnR P w K mg base CX0 3 (a_Mirror___init__ K) (sp_Mirror___init__ K) := by
  have F := T.fnS 22 (C := "Mirror") rfl rfl
  refine fSup F sc_Mirror___init__ (fun _ _ _ _ _ _ _ us hl => match us, hl with | [_, _, _], _ => rfl) (fun vs H Q E h => ?_) (fun cc cda A outer s H vs Q E hr hf hcd hcl h => ?_)
  · obtain ⟨m, dx, a, nds, f, fs, rfl, _⟩ := h
    rfl
  · obtain ⟨m, dx, a, nds, f, fs, rfl, hm, ha, hok, hf', hw, hj, hl, k⟩ := h
    obtain ⟨fd, oc, od, osl, lk, hpar⟩ := hf
    obtain ⟨ccl, cdd, vs0, ccs, tf, hcode, hvs⟩ := hcd
    obtain ⟨cl, cld, csl, hcell⟩ := hcl
    obtain ⟨b1, b2, b3, b4, b5⟩ := supB (T.c.ex 9)
    have S : SupE (NdefX.ncx CX0 P w K mg base ["self", "nodes", "finals", "__class__"] (nfS d_Mirror___init__.name d_Mirror___init__.qual s_Mirror___init__ cc cda) (d_Mirror___init__.ad K) A outer s H E).nox (He.ga K "Mirror") (He.ga K "Mirror") (a_Graph___init__ K) "__init__" ((defArgs s_Mirror___init__).args.head!) :=
      ⟨rfl, rfl, T.free "super", ⟨_, fd, oc, od, osl, rfl, lk, by rw [hpar]; rfl⟩, ⟨_, ccl, cdd, vs0, ccs, _, tf, rfl, hcode, hvs, hP.file⟩, ⟨cc, cl, cld, csl, rfl, hcell⟩, hP.top, b1, b2, b3, b4, b5, fn_in T 15 rfl rfl⟩
    refine ⟨_, psa_cons (ps_if (PW.pt (pw_or (pt_not (pt_val (pe_cf (ok_are_nodes T) (hr.mono (by decide)) (by rfl) (T.gf "are_nodes") (pa_cons (pv 1) (pa_cons (pe_gref rfl (T.ref "is_mirror_step")) pa_nil))))) (pw_or1 (pt_not (pt_val (pe_cf (ok_are_finals T) (hr.mono (by decide)) (by rfl) (T.gf "are_finals") (pa_cons (pv 2) (pa_cons (pe_callB call_len_seq (by rfl) (T.free "len") (by decide +kernel) (pa_cons (pv 1) pa_nil)) pa_nil))))))))
        (pss_one ps_never) pss_nil)
      (psa_sup (i := 0) S (ok_Graph___init__ T) (hr.mono (by decide)) (pa_cons (pv 1) (pa_cons (pv 2) pa_nil)) pss_nil rfl rfl rfl rfl), ?_⟩
    obtain ⟨xs, ha1, ha2⟩ := id ha
    have hlen : xs.length = nds.length := Paired.length ha2
    refine ⟨_, rfl, _, _, rfl, ha, hok, true, rfl, _, rfl, _, rfl, _, _, rfl, .inr ha1, _, fs, nds.length, by rw [hlen], hf', hw, hj, hl, fun H1 s1 => ⟨true, rfl, ?_⟩⟩
    refine ⟨m, dx, [], rfl, s1 _ _ hm, fun q nq => ⟨_, rfl, _, rfl, upd_same, m, dx, _, _, rfl, Same.new nq _ _ (s1 _ _ hm), fun H2 f2 e2 => ?_⟩⟩
    exact k _ (((Fr.same s1).trans (Fr.new nq)).trans f2) e2

end
end CN
end
section
set_option Elab.async false
set_option linter.all false
set_option maxRecDepth 100000
set_option maxHeartbeats 4000000
namespace CN
open PySem PySem.Spec PyProof.Rows L2
local macro_rules | `(tactic| trivial) => `(tactic| exact Led.get (by assumption) 9)
local macro_rules | `(tactic| trivial) => `(tactic| exact Led.get (by assumption) 8)
local macro_rules | `(tactic| trivial) => `(tactic| exact Led.get (by assumption) 7)
local macro_rules | `(tactic| trivial) => `(tactic| exact Led.get (by assumption) 6)
local macro_rules | `(tactic| trivial) => `(tactic| exact Led.get (by assumption) 5)
local macro_rules | `(tactic| trivial) => `(tactic| exact Led.get (by assumption) 4)
local macro_rules | `(tactic| trivial) => `(tactic| exact Led.get (by assumption) 3)
local macro_rules | `(tactic| trivial) => `(tactic| exact Led.get (by assumption) 2)
local macro_rules | `(tactic| trivial) => `(tactic| exact Led.get (by assumption) 1)
local macro_rules | `(tactic| trivial) => `(tactic| exact Led.get (by assumption) 0)
section
variable {P : Program} {w : World} {K : PySem.W.Frag} {mg : Str → Option Value} {base : Heap}
/-! ### batches, transactions -/
def BatF (r : Str) (q : Addr) : List (Str × V) := [("rule", .str r), ("notices", .ref q)]
def sb_Batch___init__ (K : PySem.W.Frag) : Sp := fun vs H Q E => ∃ b dx r p ns, vs = [.ref b, .str r, .ref p] ∧ H b = some (.ins (He.ga K "Batch") dx []) ∧ lRULES.contains r = true ∧ SqT K H p ns ∧ One K H ns ∧ ∀ H' q, Fr [b] H H' → SqT K H' q ns → H' b = some (.ins (He.ga K "Batch") dx (BatF r q)) → Q .non H'
def sp_Batch___init__ (K : PySem.W.Frag) : Sp := fun vs H Q E => ∃ ws rest, vs = ws ++ rest ∧ ws.length = 2 ∧ rest.length ≤ sizeLine ∧ ∀ p, H p = none → sb_Batch___init__ K (ws ++ [V.ref p]) (upd H p (.tup rest)) Q E
theorem sc_Batch___init__ : FnScope ["self", "rule", "notices", "notice"] ((["self", "rule"] : List Str) ++ (["notices"] : List Str)) (defScope s_Batch___init__) := ⟨rfl, rfl, rfl, by decide +kernel, rfl, by decide +kernel, by decide +kernel⟩
theorem ok_Batch___init__ (T : TX w K mg) : FnR P w K mg base CX0 3 (a_Batch___init__ K) (sp_Batch___init__ K) := by
  obtain ⟨fd, F⟩ := T.fn 11 rfl rfl
  refine fS (sp := sb_Batch___init__ K) (ps := (["self", "rule"] : List Str)) (pv := "notices") F sc_Batch___init__ (fun kV doc pm an cdv ct => StX.bind_star2 (B := fun l => bindArgs (PySem.W.fnOf _ _ _ _ _ .none kV doc pm an cdv ct) ⟨l, []⟩) (fun _ _ => rfl) (fun _ _ _ _ => rfl)) (fun cdv A outer s H vs Q E hr h => ?_)
  obtain ⟨b, dx, r, p, ns, rfl, hb, hr', hp, ho, k⟩ := h
  refine ⟨_, (pss_cons (ps_expr (pe_cf (ok_need_rule (P := P) T) (hr.mono (by decide)) (by rfl) (T.gf "need_rule") (pa_cons (pv 1) pa_nil)))
      (pss_cons (ps_for PassesOwn.never rfl (pi_tup (pv 2)) (pgn 3 sc_Batch___init__.nd)
        (pss_one (ps_expr (pe_cf (ok_need_notice (P := P) T) (hr.mono (by decide)) (by rfl) (T.gf "need_notice") (pa_cons (pv 3) pa_nil)))))
      (pss_cons (ps_fd (T.cls "Batch") (T.na "Batch" "rule") (pv 0) (pv 1))
      (pss_one (ps_fd (T.cls "Batch") (T.na "Batch" "notices") (pv 0) (pe_cf (ok_folded (P := P) T) (hr.mono (by decide)) (by rfl) (T.gf "folded") (pa_cons (pv 1) (pa_cons (pv 2) pa_nil)))))))), ?_⟩
  refine ⟨_, rfl, _, rfl, hr', ?_⟩
  refine ⟨_, rfl, p, rfl, ⟨_, hp⟩, for_it (walk_tup (xs := ns)) (fun i σ H' => (∃ u3, σ = [some (.ref b), some (.str r), some (.ref p), u3]) ∧ H' = H) ⟨⟨_, rfl⟩, rfl⟩ ?_ ?_ ?_⟩
  · rintro i σ H' _ ⟨_, rfl⟩
    exact hp
  · rintro i x σ _ H2 hi ⟨⟨u3, rfl⟩, rfl⟩ ⟨rfl, hx⟩
    rcases ho with rfl | ⟨n, rfl, dn, c, z, h1, h2, en⟩
    · cases hx
    · have hi0 : i = 0 := by
        have : i < 1 := hi
        omega
      subst hi0
      cases hx
      exact ⟨_, rfl, n, dn, _, rfl, en, ⟨_, rfl⟩, rfl⟩
  · rintro σ H2 ⟨⟨u3, rfl⟩, rfl⟩
    refine ⟨_, rfl, _, rfl, b, dx, [], _, rfl, hb, rfl, by decide, ?_⟩
    have f1 : Fr [b] H2 (upd H2 b (.ins (He.ga K "Batch") dx [("rule", .str r)])) := Fr.upd (.head _)
    have hp2 : SqT K (upd H2 b (.ins (He.ga K "Batch") dx [("rule", .str r)])) p ns := by
      rcases hp with (h | ⟨o, h⟩) | h
      · exact .inl (.inl (by rw [upd_ne (ne_of h hb fun z => nomatch z)]; exact h))
      · exact .inl (.inr ⟨o, by rw [upd_ne (ne_of h hb fun z => nomatch z)]; exact h⟩)
      · exact .inr h
    have ho2 : One K (upd H2 b (.ins (He.ga K "Batch") dx [("rule", .str r)])) ns := by
      rcases ho with h | ⟨n, e, dn, c, z, h1, h2, en⟩
      · exact .inl h
      · refine .inr ⟨n, e, dn, c, z, h1, h2, ?_⟩
        rw [upd_ne (ne_of en hb fun z => by injection z with _ _ h; exact List.cons_ne_nil _ _ h)]
        exact en
    refine ⟨_, rfl, _, rfl, r, p, ns, rfl, hp2, ho2, fun H3 q s3 hq => ⟨_, rfl, b, dx, _, _, rfl, s3 _ _ upd_same, rfl, lt_b rfl, k _ q ((f1.trans (Fr.same s3)).trans (Fr.upd (.head _))) ?_ upd_same⟩⟩
    rcases hq with (h | ⟨o, h⟩) | h
    · exact .inl (.inl (by rw [upd_ne (ne_of h (s3 _ _ upd_same) fun z => nomatch z)]; exact h))
    · exact .inl (.inr ⟨o, by rw [upd_ne (ne_of h (s3 _ _ upd_same) fun z => nomatch z)]; exact h⟩)
    · exact .inr h
def sp_Batch___len__ (K : PySem.W.Frag) : Sp := fun vs H Q E => ∃ b dx r q ns, vs = [.ref b] ∧ H b = some (.ins (He.ga K "Batch") dx (BatF r q)) ∧ SqT K H q ns ∧ Q (.int ns.length) H
theorem sc_Batch___len__ : FnScope ["self"] ["self"] (defScope s_Batch___len__) := ⟨rfl, rfl, rfl, by decide +kernel, rfl, by decide +kernel, by decide +kernel⟩
theorem ok_Batch___len__ (T : TX w K mg) : FnR P w K mg base CX0 1 (a_Batch___len__ K) (sp_Batch___len__ K) := by
  obtain ⟨fd, F⟩ := T.fn 12 rfl rfl
  refine fR F sc_Batch___len__ (fun _ _ _ _ _ _ us hl => match us, hl with | [_], _ => rfl) (fun vs H Q E h => ?_) (fun cdv A outer s H vs Q E hr h => ?_)
  · obtain ⟨b, dx, r, q, ns, rfl, hb, hq, k⟩ := h
    rfl
  · obtain ⟨b, dx, r, q, ns, rfl, hb, hq, k⟩ := h
    refine ⟨_, (pss_one (ps_ret (pe_callB call_len_seq (by rfl) (T.free "len") (by decide +kernel) (pa_cons (pe_fd (T.cls "Batch") (T.na "Batch" "notices") (pv 0)) pa_nil)))), ?_⟩
    exact ⟨_, rfl, _, _, _, _, rfl, hb, rfl, _, _, rfl, .inr hq, k⟩
    
end
end CN
end
section
set_option Elab.async false
set_option linter.all false
set_option maxRecDepth 100000
set_option maxHeartbeats 4000000
namespace CN
open PySem PySem.Spec PyProof.Rows L2
local macro_rules | `(tactic| trivial) => `(tactic| exact Led.get (by assumption) 9)
local macro_rules | `(tactic| trivial) => `(tactic| exact Led.get (by assumption) 8)
local macro_rules | `(tactic| trivial) => `(tactic| exact Led.get (by assumption) 7)
local macro_rules | `(tactic| trivial) => `(tactic| exact Led.get (by assumption) 6)
local macro_rules | `(tactic| trivial) => `(tactic| exact Led.get (by assumption) 5)
local macro_rules | `(tactic| trivial) => `(tactic| exact Led.get (by assumption) 4)
local macro_rules | `(tactic| trivial) => `(tactic| exact Led.get (by assumption) 3)
local macro_rules | `(tactic| trivial) => `(tactic| exact Led.get (by assumption) 2)
local macro_rules | `(tactic| trivial) => `(tactic| exact Led.get (by assumption) 1)
local macro_rules | `(tactic| trivial) => `(tactic| exact Led.get (by assumption) 0)
section
variable {P : Program} {w : World} {K : PySem.W.Frag} {mg : Str → Option Value} {base : Heap}
/-! ### transactions -/
def TxF (S ow sn : Addr) (bg : Int) (rw mk : Addr) (b : Bool) : List (Str × V) := [("store", .ref S), ("owner", .ref ow), ("snapshot", .ref sn), ("began", .int bg), ("rows", .ref rw), ("marks", .ref mk), ("standing", .bl b)]
def ClF (S : Addr) (nm : Str) (wk : V) (st : Addr) (po : V) : List (Str × V) := [("store", .ref S), ("name", .str nm), ("work", wk), ("starts", .ref st), ("position", po)]
def StF (r : Str) (DC DM PL QL : Addr) : List (Str × V) := [("rule", .str r), ("most", .int 200), ("cells", .ref DC), ("members", .ref DM), ("past", .ref PL), ("queue", .ref QL)]
def TxO (K : PySem.W.Frag) (dx S ow sn : Addr) (bg : Int) (rw mk : Addr) (b : Bool) : HO := .ins (He.ga K "Transaction") dx (TxF S ow sn bg rw mk b)
def ClO (K : PySem.W.Frag) (dx S : Addr) (nm : Str) (wk : V) (st : Addr) (po : V) : HO := .ins (He.ga K "Client") dx (ClF S nm wk st po)
def StO (K : PySem.W.Frag) (dx : Addr) (r : Str) (DC DM PL QL : Addr) : HO := .ins (He.ga K "Store") dx (StF r DC DM PL QL)
abbrev kA : Key := .inr "a"
inductive Row where
  | set (w : Str) | say (n : Addr) | lis | unl
def RowL : Row → List V
  | .set w => [.str "set", .str "a", .str w]
  | .say n => [.str "say", .ref n]
  | .lis => [.str "listen", .str "a"]
  | .unl => [.str "unlisten", .str "a"]
def RowT (H : Hp) (v : V) (r : Row) : Prop := ∃ a, v = .ref a ∧ H a = some (.tup (RowL r))
theorem RowT.same {H H' : Hp} (s : Same H H') {v : V} {r : Row} : RowT H v r → RowT H' v r := fun ⟨a, e, h⟩ => ⟨a, e, s _ _ h⟩
theorem Fr.tup {fp : List Addr} {H H' : Hp} {a : Addr} {xs : List V} (f : Fr fp H H') (h : H a = some (.tup xs)) (n : ∀ q ∈ fp, ∃ o, H q = some o ∧ ∀ ys, o ≠ .tup ys) : H' a = some (.tup xs) := f _ _ h fun m => by
  obtain ⟨o, e, z⟩ := n a m
  rw [h] at e
  exact z _ (Option.some.inj e).symm
theorem Fr.tup1 {q : Addr} {ys : List V} {H H' : Hp} {a : Addr} {xs : List V} (f : Fr [q] H H') (hq : H q = some (.lst ys)) (h : H a = some (.tup xs)) : H' a = some (.tup xs) :=
  f.tup h fun p hp => by
    rw [List.mem_singleton.mp hp]
    exact ⟨_, hq, fun _ z => nomatch z⟩
theorem RowT.fr1 {q : Addr} {ys : List V} {H H' : Hp} (f : Fr [q] H H') (hq : H q = some (.lst ys)) {v : V} {r : Row} : RowT H v r → RowT H' v r := fun ⟨a, e, h⟩ => ⟨a, e, f.tup1 hq h⟩
def sp_Transaction_need_open (K : PySem.W.Frag) : Sp := fun vs H Q E => ∃ tx dx S ow sn bg rw mk, vs = [.ref tx] ∧ H tx = some (TxO K dx S ow sn bg rw mk true) ∧ Q .non H
theorem sc_Transaction_need_open : FnScope ["self"] ["self"] (defScope s_Transaction_need_open) := ⟨rfl, rfl, rfl, by decide +kernel, rfl, by decide +kernel, by decide +kernel⟩
theorem ok_Transaction_need_open (T : TX w K mg) : FnR P w K mg base CX0 1 (a_Transaction_need_open K) (sp_Transaction_need_open K) := by
  obtain ⟨fd, F⟩ := T.fn 43 rfl rfl
  refine fR F sc_Transaction_need_open (fun _ _ _ _ _ _ us hl => match us, hl with | [_], _ => rfl) (fun vs H Q E h => ?_) (fun cdv A outer s H vs Q E hr h => ?_)
  · obtain ⟨tx, dx, S, ow, sn, bg, rw, mk, rfl, ht, k⟩ := h
    rfl
  · obtain ⟨tx, dx, S, ow, sn, bg, rw, mk, rfl, ht, k⟩ := h
    refine ⟨_, (pss_one (ps_if (pt_not (pt_val (pe_fd (T.cls "Transaction") (T.na "Transaction" "standing") (pv 0))))
        (pss_one ps_never)
        pss_nil)), ?_⟩
    exact ⟨_, rfl, _, _, _, _, rfl, ht, rfl, true, rfl, k⟩
def sp_Transaction_need_cell (K : PySem.W.Frag) : Sp := fun vs H Q E => ∃ tx dx S ow sn bg rw mk b kvs, vs = [.ref tx, .str "a"] ∧ H tx = some (TxO K dx S ow sn bg rw mk b) ∧ H sn = some (.dK kvs) ∧ (valV kvs kA).isSome = true ∧ Q .non H
theorem sc_Transaction_need_cell : FnScope ["self", "cell"] ["self", "cell"] (defScope s_Transaction_need_cell) := ⟨rfl, rfl, rfl, by decide +kernel, rfl, by decide +kernel, by decide +kernel⟩
theorem ok_Transaction_need_cell (T : TX w K mg) : FnR P w K mg base CX0 1 (a_Transaction_need_cell K) (sp_Transaction_need_cell K) := by
  obtain ⟨fd, F⟩ := T.fn 44 rfl rfl
  refine fR F sc_Transaction_need_cell (fun _ _ _ _ _ _ us hl => match us, hl with | [_, _], _ => rfl) (fun vs H Q E h => ?_) (fun cdv A outer s H vs Q E hr h => ?_)
  · obtain ⟨tx, dx, S, ow, sn, bg, rw, mk, b, kvs, rfl, ht, hs, hv, k⟩ := h
    rfl
  · obtain ⟨tx, dx, S, ow, sn, bg, rw, mk, b, kvs, rfl, ht, hs, hv, k⟩ := h
    refine ⟨_, (pss_one (ps_if (PW.pt (pw_or (pt_not (pt_val (pe_callB call_isi (by rfl) (T.free "isinstance") (by decide +kernel) (pa_cons (pv 1) (pa_cons (pe_bltn (v := .ty "str") (by rfl) (T.free "str") (by decide +kernel) rfl) pa_nil))))) (pw_or1 (pt_cmp (pc_dnotin (hu_of hr) (pv 1) (pe_fd (T.cls "Transaction") (T.na "Transaction" "snapshot") (pv 0)))))))
        (pss_one ps_never)
        pss_nil)), ?_⟩
    refine ⟨_, rfl, _, _, _, _, true, rfl, .ty "str", .base (.str _), kit_same _, true, rfl, _, rfl, _, rfl, _, _, _, _, rfl, ht, rfl, sn, _, rfl, DGet.k (k := kA) hs, _, rfl, ?_⟩
    rw [hv]
    exact k
def sp_Transaction___setitem__ (K : PySem.W.Frag) : Sp := fun vs H Q E => ∃ tx dx S ow sn bg rw mk kvs z rs, vs = [.ref tx, .str "a", .str z] ∧ H tx = some (TxO K dx S ow sn bg rw mk true) ∧ H sn = some (.dK kvs) ∧ (valV kvs kA).isSome = true ∧ okW z = true ∧ H rw = some (.lst rs) ∧ rs.length < 1000 ∧
  ∀ H' t, Fr [rw] H H' → H' rw = some (.lst (rs ++ [.ref t])) → H' t = some (.tup (RowL (.set z))) → Q .non H'
theorem sc_Transaction___setitem__ : FnScope ["self", "cell", "word"] ["self", "cell", "word"] (defScope s_Transaction___setitem__) := ⟨rfl, rfl, rfl, by decide +kernel, rfl, by decide +kernel, by decide +kernel⟩
theorem ok_Transaction___setitem__ (T : TX w K mg) : FnR P w K mg base CX0 4 (a_Transaction___setitem__ K) (sp_Transaction___setitem__ K) := by
  obtain ⟨fd, F⟩ := T.fn 45 rfl rfl
  refine fR F sc_Transaction___setitem__ (fun _ _ _ _ _ _ us hl => match us, hl with | [_, _, _], _ => rfl) (fun vs H Q E h => ?_) (fun cdv A outer s H vs Q E hr h => ?_)
  · obtain ⟨tx, dx, S, ow, sn, bg, rw, mk, kvs, z, rs, rfl, ht, hs, hv, hz, hw, hl, k⟩ := h
    rfl
  · obtain ⟨tx, dx, S, ow, sn, bg, rw, mk, kvs, z, rs, rfl, ht, hs, hv, hz, hw, hl, k⟩ := h
    refine ⟨_, (pss_cons (ps_expr (pe_me0 (pv 0) (T.cls "Transaction") (T.me "Transaction" "need_open") (ok_Transaction_need_open (P := P) T) (hr.mono (by decide))))
      (pss_cons (ps_expr (pe_me (pv 0) (T.cls "Transaction") (T.me "Transaction" "need_cell") (ok_Transaction_need_cell (P := P) T) (hr.mono (by decide)) (pa_cons (pv 1) pa_nil)))
      (pss_cons (ps_expr (pe_cf (ok_need_word (P := P) T) (hr.mono (by decide)) (by rfl) (T.gf "need_word") (pa_cons (pv 2) pa_nil)))
      (pss_one (ps_expr (pe_bm PySem.F.plainAttrs_list PySem.F.slot_list_append PySem.F.type_list_append mt_append (pe_fd (T.cls "Transaction") (T.na "Transaction" "rows") (pv 0)) (pa_cons (pe_tup (pa_cons pe_str (pa_cons (pv 1) (pa_cons (pv 2) pa_nil)))) pa_nil))))))), ?_⟩
    refine ⟨_, rfl, _, _, _, rfl, ht, rfl, _, _, _, _, _, _, _, _, rfl, ht, ?_⟩
    refine ⟨_, rfl, _, _, _, rfl, ht, rfl, _, rfl, _, _, _, _, _, _, _, _, _, _, rfl, ht, hs, hv, ?_⟩
    refine ⟨_, rfl, _, rfl, hz, fun H1 s1 => ⟨_, rfl, _, _, _, _, rfl, s1 _ _ ht, rfl, .inl ⟨rfl, _, .of (s1 _ _ hw)⟩, _, rfl, _, rfl, ll rfl, fun t nt => ?_⟩⟩
    have s2 := Same.newT (o := .tup (RowL (.set z))) s1 nt
    refine ⟨_, _, _, rfl, rfl, s2 _ _ hw, by rw [line_eq]; omega, k _ t ((Fr.same s2).trans (Fr.upd (.head _))) upd_same ?_⟩
    rw [upd_ne (ne_of upd_same (s2 _ _ hw) fun z => nomatch z)]
    exact upd_same
def sp_Transaction___iadd__ (K : PySem.W.Frag) : Sp := fun vs H Q E => ∃ tx dx S ow sn bg rw mk n dn fs rs, vs = [.ref tx, .ref n] ∧ H tx = some (TxO K dx S ow sn bg rw mk true) ∧ H n = some (.ins (He.ga K "Notice") dn fs) ∧ H rw = some (.lst rs) ∧ rs.length < 1000 ∧
  ∀ H' t, Fr [rw] H H' → H' rw = some (.lst (rs ++ [.ref t])) → H' t = some (.tup (RowL (.say n))) → Q (.ref tx) H'
theorem sc_Transaction___iadd__ : FnScope ["self", "notice"] ["self", "notice"] (defScope s_Transaction___iadd__) := ⟨rfl, rfl, rfl, by decide +kernel, rfl, by decide +kernel, by decide +kernel⟩
theorem ok_Transaction___iadd__ (T : TX w K mg) : FnR P w K mg base CX0 2 (a_Transaction___iadd__ K) (sp_Transaction___iadd__ K) := by
  obtain ⟨fd, F⟩ := T.fn 46 rfl rfl
  refine fR F sc_Transaction___iadd__ (fun _ _ _ _ _ _ us hl => match us, hl with | [_, _], _ => rfl) (fun vs H Q E h => ?_) (fun cdv A outer s H vs Q E hr h => ?_)
  · obtain ⟨tx, dx, S, ow, sn, bg, rw, mk, n, dn, fs, rs, rfl, ht, hn, hw, hl, k⟩ := h
    rfl
  · obtain ⟨tx, dx, S, ow, sn, bg, rw, mk, n, dn, fs, rs, rfl, ht, hn, hw, hl, k⟩ := h
    refine ⟨_, (pss_cons (ps_expr (pe_me0 (pv 0) (T.cls "Transaction") (T.me "Transaction" "need_open") (ok_Transaction_need_open (P := P) T) (hr.mono (by decide))))
      (pss_cons (ps_expr (pe_cf (ok_need_notice (P := P) T) (hr.mono (by decide)) (by rfl) (T.gf "need_notice") (pa_cons (pv 1) pa_nil)))
      (pss_cons (ps_expr (pe_bm PySem.F.plainAttrs_list PySem.F.slot_list_append PySem.F.type_list_append mt_append (pe_fd (T.cls "Transaction") (T.na "Transaction" "rows") (pv 0)) (pa_cons (pe_tup (pa_cons pe_str (pa_cons (pv 1) pa_nil))) pa_nil)))
      (pss_one (ps_ret (pv 0)))))), ?_⟩
    refine ⟨_, rfl, _, _, _, rfl, ht, rfl, _, _, _, _, _, _, _, _, rfl, ht, ?_⟩
    refine ⟨_, rfl, _, _, _, rfl, hn, ?_⟩
    refine ⟨_, rfl, _, _, _, _, rfl, ht, rfl, .inl ⟨rfl, _, .of hw⟩, _, rfl, ll rfl, fun t nt => ?_⟩
    have s2 := Same.new (o := .tup (RowL (.say n))) nt
    refine ⟨_, _, _, rfl, rfl, s2 _ _ hw, by rw [line_eq]; omega, _, rfl, k _ t ((Fr.same s2).trans (Fr.upd (.head _))) upd_same ?_⟩
    rw [upd_ne (ne_of upd_same (s2 _ _ hw) fun z => nomatch z)]
    exact upd_same
def rowHead : Row → Str
  | .set _ => "set"
  | .say _ => "say"
  | .lis => "listen"
  | .unl => "unlisten"
theorem row0 (r : Row) : atI (RowL r) 0 = some (.str (rowHead r)) := by cases r <;> rfl
def outSet : Row → List (Key × V)
  | .set w => [(kA, .str w)]
  | _ => []
def outWish : Row → List (Key × V)
  | .lis => [(kA, .str "listen")]
  | .unl => [(kA, .str "unlisten")]
  | _ => []
def outSay : Row → List V
  | .say n => [.ref n]
  | _ => []
theorem putAll_len : ∀ (l : List (Key × V)) (d : List (Key × V)), (putAll l d).length ≤ d.length + l.length
  | [], d => Nat.le_refl _
  | p :: r, d => by
    show (putAll r (putK d p.1 p.2)).length ≤ _
    have h1 := putAll_len r (putK d p.1 p.2)
    have h2 : (putK d p.1 p.2).length ≤ d.length + 1 := by
      unfold putK
      split
      · rw [List.length_map]
        omega
      · rw [List.length_append]
        exact Nat.le_refl _
    rw [List.length_cons]
    omega
theorem flatK_le {α : Type} {f : α → List (Key × V)} (h : ∀ x, (f x).length ≤ 1) : ∀ l : List α, (l.flatMap f).length ≤ l.length
  | [] => Nat.le_refl _
  | a :: r => by
    rw [List.flatMap_cons, List.length_append, List.length_cons]
    have := h a
    have := flatK_le h r
    omega
theorem dc_lt {α : Type} {f : α → List (Key × V)} {xs : List α} {i : Nat} (h : ∀ x, (f x).length ≤ 1) (hn : xs.length < 1000) : (putAll ((xs.take i).flatMap f) []).length < sizeLine := by
  have h1 := putAll_len ((xs.take i).flatMap f) []
  have h2 := flatK_le h (xs.take i)
  have h3 : (xs.take i).length ≤ xs.length := by rw [List.length_take]; omega
  rw [line_eq]
  simp only [List.length_nil] at h1
  omega
def sp_Transaction_changes (K : PySem.W.Frag) : Sp := fun vs H Q E => ∃ tx dx S ow sn bg rw mk b rs rows, vs = [.ref tx] ∧ H tx = some (TxO K dx S ow sn bg rw mk b) ∧ H rw = some (.lst rs) ∧ Paired (RowT H) rs rows ∧ rows.length < 1000 ∧ ∀ H' D, Same H H' → H D = none → H' D = some (.dK (putAll (rows.flatMap outSet) [])) → Q (.ref D) H'
theorem sc_Transaction_changes : FnScope ["self", "row"] ["self"] (defScope s_Transaction_changes) := ⟨rfl, rfl, rfl, by decide +kernel, rfl, by decide +kernel, by decide +kernel⟩
theorem ok_Transaction_changes (T : TX w K mg) : FnR P w K mg base CX0 1 (a_Transaction_changes K) (sp_Transaction_changes K) := by
  obtain ⟨fd, F⟩ := T.fn 47 rfl rfl
  refine fR F sc_Transaction_changes (fun _ _ _ _ _ _ us hl => match us, hl with | [_], _ => rfl) (fun vs H Q E h => ?_) (fun cdv A outer s H vs Q E hr h => ?_)
  · obtain ⟨tx, dx, S, ow, sn, bg, rw, mk, b, rs, rows, rfl, ht, hw, hr', hl, k⟩ := h
    rfl
  · obtain ⟨tx, dx, S, ow, sn, bg, rw, mk, b, rs, rows, rfl, ht, hw, hr', hl, k⟩ := h
    refine ⟨_, (pss_one (ps_ret (pe_dc (own := [("row", 1)]) rfl sc_Transaction_changes.nd (pi_list (pe_fd (T.cls "Transaction") (T.na "Transaction" "rows") (pv 0))) (blkN sc_Transaction_changes) (fun _ _ _ _ _ => pgn 1 sc_Transaction_changes.nd) (fun _ _ _ _ _ => pts_one (pt_cmpR op_eq (pe_ix (ix_tupK K rfl) (pv 1) pe_int (fun _ _ => rfl)) pe_str (nomark _))) (fun _ _ _ _ _ => pe_ix (ix_tupK K rfl) (pv 1) pe_int (fun _ _ => rfl)) (fun _ _ _ _ _ => pe_ix (ix_tupK K rfl) (pv 1) pe_int (fun _ _ => rfl))))), ?_⟩
    have hlen : rs.length = rows.length := Paired.length hr'
    refine ⟨_, rfl, _, _, _, _, rfl, ht, rfl, _, rfl, ⟨_, .of hw⟩, fun A hA => dc_it (walk_list (xs := rs)) (DcI H A rows outSet) (DcI.zero hA) (fun _ _ _ p => .of (p.s _ _ hw)) ?_ ?_⟩
    · rintro i x H1 H2 hi p ⟨rfl, hx⟩
      have hi2 : i < rows.length := by omega
      have hri : rows[i]? = some rows[i] := List.getElem?_eq_getElem hi2
      obtain ⟨v, e1, a, rfl, e2⟩ := Paired.at hr' hri
      cases e1.symm.trans hx
      generalize rows[i] = r at hri e2
      have e3 := p.s _ _ e2
      refine ⟨rfl, _, rfl, _, _, _, _, rfl, rfl, .of e3, row0 r, rfl, _, rfl, ?_⟩
      have hle : ∀ x, (outSet x).length ≤ 1 := fun r => by cases r <;> simp [outSet]
      cases r with
      | set w =>
        rw [show decide (V.str (rowHead (.set w)) = V.str "set") = true from sT rfl]
        refine ⟨_, rfl, _, _, _, _, rfl, rfl, .of e3, rfl, _, rfl, _, _, _, _, rfl, rfl, .of e3, rfl, ?_⟩
        exact p.push hA hri (fun _ _ e => e) (k := kA) rfl rfl (dc_lt hle hl)
      | say n =>
        rw [show decide (V.str (rowHead (.say n)) = V.str "set") = false from sF (a := "say") (by decide)]
        exact p.skip hri (fun _ _ e => e) rfl
      | lis =>
        rw [show decide (V.str (rowHead .lis) = V.str "set") = false from sF (by decide)]
        exact p.skip hri (fun _ _ e => e) rfl
      | unl =>
        rw [show decide (V.str (rowHead .unl) = V.str "set") = false from sF (by decide)]
        exact p.skip hri (fun _ _ e => e) rfl
    · intro H1 p
      rw [hlen] at p
      exact k _ _ p.s hA p.all
def sp_Transaction_wishes (K : PySem.W.Frag) : Sp := fun vs H Q E => ∃ tx dx S ow sn bg rw mk b rs rows, vs = [.ref tx] ∧ H tx = some (TxO K dx S ow sn bg rw mk b) ∧ H rw = some (.lst rs) ∧ Paired (RowT H) rs rows ∧ rows.length < 1000 ∧ ∀ H' D, Same H H' → H D = none → H' D = some (.dK (putAll (rows.flatMap outWish) [])) → Q (.ref D) H'
theorem sc_Transaction_wishes : FnScope ["self", "row"] ["self"] (defScope s_Transaction_wishes) := ⟨rfl, rfl, rfl, by decide +kernel, rfl, by decide +kernel, by decide +kernel⟩
theorem ok_Transaction_wishes (T : TX w K mg) : FnR P w K mg base CX0 1 (a_Transaction_wishes K) (sp_Transaction_wishes K) := by
  obtain ⟨fd, F⟩ := T.fn 48 rfl rfl
  refine fR F sc_Transaction_wishes (fun _ _ _ _ _ _ us hl => match us, hl with | [_], _ => rfl) (fun vs H Q E h => ?_) (fun cdv A outer s H vs Q E hr h => ?_)
  · obtain ⟨tx, dx, S, ow, sn, bg, rw, mk, b, rs, rows, rfl, ht, hw, hr', hl, k⟩ := h
    rfl
  · obtain ⟨tx, dx, S, ow, sn, bg, rw, mk, b, rs, rows, rfl, ht, hw, hr', hl, k⟩ := h
    refine ⟨_, (pss_one (ps_ret (pe_dc (own := [("row", 1)]) rfl sc_Transaction_wishes.nd (pi_list (pe_fd (T.cls "Transaction") (T.na "Transaction" "rows") (pv 0))) (blkN sc_Transaction_wishes) (fun _ _ _ _ _ => pgn 1 sc_Transaction_wishes.nd) (fun _ _ _ _ _ => pts_one (pt_cmpR (op_in_seqK K rfl) (pe_ix (ix_tupK K rfl) (pv 1) pe_int (fun _ _ => rfl)) (pe_tup (pa_cons pe_str (pa_cons pe_str pa_nil))) (by rfl))) (fun _ _ _ _ _ => pe_ix (ix_tupK K rfl) (pv 1) pe_int (fun _ _ => rfl)) (fun _ _ _ _ _ => pe_ix (ix_tupK K rfl) (pv 1) pe_int (fun _ _ => rfl))))), ?_⟩
    have hlen : rs.length = rows.length := Paired.length hr'
    refine ⟨_, rfl, _, _, _, _, rfl, ht, rfl, _, rfl, ⟨_, .of hw⟩, fun A hA => dc_it (walk_list (xs := rs)) (DcI H A rows outWish) (DcI.zero hA) (fun _ _ _ p => .of (p.s _ _ hw)) ?_ ?_⟩
    · rintro i x H1 H2 hi p ⟨rfl, hx⟩
      have hi2 : i < rows.length := by omega
      have hri : rows[i]? = some rows[i] := List.getElem?_eq_getElem hi2
      obtain ⟨v, e1, a, rfl, e2⟩ := Paired.at hr' hri
      cases e1.symm.trans hx
      generalize rows[i] = r at hri e2
      have e3 := p.s _ _ e2
      have hle : ∀ x, (outWish x).length ≤ 1 := fun r => by cases r <;> simp [outWish]
      refine ⟨rfl, _, rfl, _, _, _, _, rfl, rfl, .of e3, row0 r, ll rfl, fun t nt => ⟨_, _, rfl, .inr (.of upd_same), rfl, rfl, _, rfl, ?_⟩⟩
      have sN := Same.new (o := .tup ([.str "listen", .str "unlisten"] : List V)) nt
      have e4 := sN _ _ e3
      have ein : inV (.str (rowHead r)) [.str "listen", .str "unlisten"] = (["listen", "unlisten"] : List Str).contains (rowHead r) := inV_strs (l := ["listen", "unlisten"])
      rw [ein]
      cases r with
      | set w => exact p.skip hri sN rfl
      | say n => exact p.skip hri sN rfl
      | lis =>
        refine ⟨_, rfl, _, _, _, _, rfl, rfl, .of e4, rfl, _, rfl, _, _, _, _, rfl, rfl, .of e4, rfl, ?_⟩
        exact p.push hA hri sN (k := kA) rfl rfl (dc_lt hle hl)
      | unl =>
        refine ⟨_, rfl, _, _, _, _, rfl, rfl, .of e4, rfl, _, rfl, _, _, _, _, rfl, rfl, .of e4, rfl, ?_⟩
        exact p.push hA hri sN (k := kA) rfl rfl (dc_lt hle hl)
    · intro H1 p
      rw [hlen] at p
      exact k _ _ p.s hA p.all
def sb_Transaction_listen (K : PySem.W.Frag) : Sp := fun vs H Q E => ∃ tx dx S ow sn bg rw mk p rs, vs = [.ref tx, .ref p] ∧ H tx = some (TxO K dx S ow sn bg rw mk true) ∧ H p = some (.tup [.str "a"]) ∧ H rw = some (.lst rs) ∧ rs.length < 1000 ∧
  ∀ H' t, Fr [rw] H H' → H' rw = some (.lst (rs ++ [.ref t])) → H' t = some (.tup (RowL .lis)) → Q .non H'
def sp_Transaction_listen (K : PySem.W.Frag) : Sp := fun vs H Q E => ∃ ws rest, vs = ws ++ rest ∧ ws.length = 1 ∧ rest.length ≤ sizeLine ∧ ∀ p, H p = none → sb_Transaction_listen K (ws ++ [V.ref p]) (upd H p (.tup rest)) Q E
theorem sc_Transaction_listen : FnScope ["self", "channels", "channel"] ((["self"] : List Str) ++ (["channels"] : List Str)) (defScope s_Transaction_listen) := ⟨rfl, rfl, rfl, by decide +kernel, rfl, by decide +kernel, by decide +kernel⟩
theorem ok_Transaction_listen (T : TX w K mg) : FnR P w K mg base CX0 4 (a_Transaction_listen K) (sp_Transaction_listen K) := by
  obtain ⟨fd, F⟩ := T.fn 49 rfl rfl
  refine fS (sp := sb_Transaction_listen K) (ps := (["self"] : List Str)) (pv := "channels") F sc_Transaction_listen (fun kV doc pm an cdv ct => StX.bind_star1 (B := fun l => bindArgs (PySem.W.fnOf _ _ _ _ _ .none kV doc pm an cdv ct) ⟨l, []⟩) (fun _ => rfl) (fun _ _ _ => rfl)) (fun cdv A outer s H vs Q E hr h => ?_)
  obtain ⟨tx, dx, S, ow, sn, bg, rw, mk, p, rs, rfl, ht, hp, hw, hl, k⟩ := h
  refine ⟨_, (pss_cons (ps_expr (pe_me0 (pv 0) (T.cls "Transaction") (T.me "Transaction" "need_open") (ok_Transaction_need_open (P := P) T) (hr.mono (by decide))))
      (pss_cons (ps_for PassesOwn.never rfl (pi_tup (pv 1)) (pgn 2 sc_Transaction_listen.nd)
        (pss_one (ps_expr (pe_cf (ok_need_name (P := P) T) (hr.mono (by decide)) (by rfl) (T.gf "need_name") (pa_cons (pv 2) pa_nil)))))
      (pss_one (ps_expr (pe_bm PySem.F.plainAttrs_list PySem.F.slot_list_extend PySem.F.type_list_extend mt_extend (pe_fd (T.cls "Transaction") (T.na "Transaction" "rows") (pv 0)) (pa_cons (pe_lc (own := [("channel", 2)]) rfl sc_Transaction_listen.nd (pi_tup (pv 1)) (blkN sc_Transaction_listen) (fun _ _ _ _ _ => pgn 2 sc_Transaction_listen.nd) (fun _ _ _ _ _ => pts_nil) (fun _ _ _ _ _ => pe_tup (pa_cons pe_str (pa_cons (pv 2) pa_nil)))) pa_nil)))))), ?_⟩
  refine ⟨_, rfl, _, _, _, rfl, ht, rfl, _, _, _, _, _, _, _, _, rfl, ht, ?_⟩
  refine ⟨_, rfl, p, rfl, ⟨_, .of hp⟩, for_it (walk_tup (xs := [V.str "a"])) (fun i σ H' => (∃ u2, σ = [some (.ref tx), some (.ref p), u2]) ∧ Same H H') ⟨⟨_, rfl⟩, fun _ _ e => e⟩ ?_ ?_ ?_⟩
  · rintro i σ H' _ ⟨_, s⟩
    exact .of (s _ _ hp)
  · rintro i x σ _ H2 hi ⟨⟨u2, rfl⟩, s⟩ ⟨rfl, hx⟩
    have hi0 : i = 0 := by
      have : i < 1 := hi
      omega
    subst hi0
    cases hx
    exact ⟨_, rfl, _, rfl, by decide +kernel, fun H3 s3 => ⟨⟨_, rfl⟩, s.trans s3⟩⟩
  · rintro σ H1 ⟨⟨u2, rfl⟩, s⟩
    refine ⟨_, rfl, _, _, _, _, rfl, s _ _ ht, rfl, .inl ⟨rfl, _, .of (s _ _ hw)⟩, ?_⟩
    refine ⟨_, rfl, p, rfl, ⟨_, .of (s _ _ hp)⟩, fun A hA => lc_it (walk_tup (xs := [V.str "a"])) (fun i H' => Same H1 H' ∧ (i = 0 → H' A = some (.lst [])) ∧ (i = 1 → ∃ t, H' A = some (.lst [.ref t]) ∧ H' t = some (.tup (RowL .lis)))) ⟨Same.new hA, fun _ => upd_same, fun h => nomatch h⟩ (fun _ _ _ q => .of (q.1 _ _ (s _ _ hp))) ?_ ?_⟩
    · rintro i x H2 H3 hi ⟨q1, q2, q3⟩ ⟨rfl, hx⟩
      have hi0 : i = 0 := by
        have : i < 1 := hi
        omega
      subst hi0
      cases hx
      have e0 := q2 rfl
      refine ⟨rfl, _, rfl, ll rfl, fun t nt => ⟨[], Same.new nt _ _ e0, ls rfl, Same.wr (q1.trans (Same.new nt)) hA, fun h => absurd h (by decide), fun _ => ⟨t, upd_same, ?_⟩⟩⟩
      rw [upd_ne (ne_of (upd_same (o := .tup (RowL .lis))) (Same.new nt _ _ e0) fun z => nomatch z)]
      exact upd_same
    · rintro H2 ⟨q1, q2, q3⟩
      obtain ⟨t, e1, e2⟩ := q3 rfl
      have hw2 := q1 _ _ (s _ _ hw)
      refine ⟨_, _, _, _, rfl, rfl, hw2, e1, by rw [line_eq]; show rs.length + 1 ≤ _; omega, ?_⟩
      refine k _ t ((Fr.same (s.trans q1)).trans (Fr.upd (.head _))) upd_same ?_
      rw [upd_ne (ne_of e2 hw2 fun z => nomatch z)]
      exact e2
def sb_Transaction_unlisten (K : PySem.W.Frag) : Sp := fun vs H Q E => ∃ tx dx S ow sn bg rw mk p rs, vs = [.ref tx, .ref p] ∧ H tx = some (TxO K dx S ow sn bg rw mk true) ∧ H p = some (.tup [.str "a"]) ∧ H rw = some (.lst rs) ∧ rs.length < 1000 ∧
  ∀ H' t, Fr [rw] H H' → H' rw = some (.lst (rs ++ [.ref t])) → H' t = some (.tup (RowL .unl)) → Q .non H'
def sp_Transaction_unlisten (K : PySem.W.Frag) : Sp := fun vs H Q E => ∃ ws rest, vs = ws ++ rest ∧ ws.length = 1 ∧ rest.length ≤ sizeLine ∧ ∀ p, H p = none → sb_Transaction_unlisten K (ws ++ [V.ref p]) (upd H p (.tup rest)) Q E
theorem sc_Transaction_unlisten : FnScope ["self", "channels", "channel"] ((["self"] : List Str) ++ (["channels"] : List Str)) (defScope s_Transaction_unlisten) := ⟨rfl, rfl, rfl, by decide +kernel, rfl, by decide +kernel, by decide +kernel⟩
theorem ok_Transaction_unlisten (T : TX w K mg) : FnR P w K mg base CX0 4 (a_Transaction_unlisten K) (sp_Transaction_unlisten K) := by
  obtain ⟨fd, F⟩ := T.fn 50 rfl rfl
  refine fS (sp := sb_Transaction_unlisten K) (ps := (["self"] : List Str)) (pv := "channels") F sc_Transaction_unlisten (fun kV doc pm an cdv ct => StX.bind_star1 (B := fun l => bindArgs (PySem.W.fnOf _ _ _ _ _ .none kV doc pm an cdv ct) ⟨l, []⟩) (fun _ => rfl) (fun _ _ _ => rfl)) (fun cdv A outer s H vs Q E hr h => ?_)
  obtain ⟨tx, dx, S, ow, sn, bg, rw, mk, p, rs, rfl, ht, hp, hw, hl, k⟩ := h
  refine ⟨_, (pss_cons (ps_expr (pe_me0 (pv 0) (T.cls "Transaction") (T.me "Transaction" "need_open") (ok_Transaction_need_open (P := P) T) (hr.mono (by decide))))
      (pss_cons (ps_for PassesOwn.never rfl (pi_tup (pv 1)) (pgn 2 sc_Transaction_unlisten.nd)
        (pss_one (ps_expr (pe_cf (ok_need_name (P := P) T) (hr.mono (by decide)) (by rfl) (T.gf "need_name") (pa_cons (pv 2) pa_nil)))))
      (pss_one (ps_expr (pe_bm PySem.F.plainAttrs_list PySem.F.slot_list_extend PySem.F.type_list_extend mt_extend (pe_fd (T.cls "Transaction") (T.na "Transaction" "rows") (pv 0)) (pa_cons (pe_lc (own := [("channel", 2)]) rfl sc_Transaction_unlisten.nd (pi_tup (pv 1)) (blkN sc_Transaction_unlisten) (fun _ _ _ _ _ => pgn 2 sc_Transaction_unlisten.nd) (fun _ _ _ _ _ => pts_nil) (fun _ _ _ _ _ => pe_tup (pa_cons pe_str (pa_cons (pv 2) pa_nil)))) pa_nil)))))), ?_⟩
  refine ⟨_, rfl, _, _, _, rfl, ht, rfl, _, _, _, _, _, _, _, _, rfl, ht, ?_⟩
  refine ⟨_, rfl, p, rfl, ⟨_, .of hp⟩, for_it (walk_tup (xs := [V.str "a"])) (fun i σ H' => (∃ u2, σ = [some (.ref tx), some (.ref p), u2]) ∧ Same H H') ⟨⟨_, rfl⟩, fun _ _ e => e⟩ ?_ ?_ ?_⟩
  · rintro i σ H' _ ⟨_, s⟩
    exact .of (s _ _ hp)
  · rintro i x σ _ H2 hi ⟨⟨u2, rfl⟩, s⟩ ⟨rfl, hx⟩
    have hi0 : i = 0 := by
      have : i < 1 := hi
      omega
    subst hi0
    cases hx
    exact ⟨_, rfl, _, rfl, by decide +kernel, fun H3 s3 => ⟨⟨_, rfl⟩, s.trans s3⟩⟩
  · rintro σ H1 ⟨⟨u2, rfl⟩, s⟩
    refine ⟨_, rfl, _, _, _, _, rfl, s _ _ ht, rfl, .inl ⟨rfl, _, .of (s _ _ hw)⟩, ?_⟩
    refine ⟨_, rfl, p, rfl, ⟨_, .of (s _ _ hp)⟩, fun A hA => lc_it (walk_tup (xs := [V.str "a"])) (fun i H' => Same H1 H' ∧ (i = 0 → H' A = some (.lst [])) ∧ (i = 1 → ∃ t, H' A = some (.lst [.ref t]) ∧ H' t = some (.tup (RowL .unl)))) ⟨Same.new hA, fun _ => upd_same, fun h => nomatch h⟩ (fun _ _ _ q => .of (q.1 _ _ (s _ _ hp))) ?_ ?_⟩
    · rintro i x H2 H3 hi ⟨q1, q2, q3⟩ ⟨rfl, hx⟩
      have hi0 : i = 0 := by
        have : i < 1 := hi
        omega
      subst hi0
      cases hx
      have e0 := q2 rfl
      refine ⟨rfl, _, rfl, ll rfl, fun t nt => ⟨[], Same.new nt _ _ e0, ls rfl, Same.wr (q1.trans (Same.new nt)) hA, fun h => absurd h (by decide), fun _ => ⟨t, upd_same, ?_⟩⟩⟩
      rw [upd_ne (ne_of (upd_same (o := .tup (RowL .unl))) (Same.new nt _ _ e0) fun z => nomatch z)]
      exact upd_same
    · rintro H2 ⟨q1, q2, q3⟩
      obtain ⟨t, e1, e2⟩ := q3 rfl
      have hw2 := q1 _ _ (s _ _ hw)
      refine ⟨_, _, _, _, rfl, rfl, hw2, e1, by rw [line_eq]; show rs.length + 1 ≤ _; omega, ?_⟩
      refine k _ t ((Fr.same (s.trans q1)).trans (Fr.upd (.head _))) upd_same ?_
      rw [upd_ne (ne_of e2 hw2 fun z => nomatch z)]
      exact e2
def sp_Transaction_end (K : PySem.W.Frag) : Sp := fun vs H Q E => ∃ tx dx S ow sn bg rw mk dc nm wk st po, vs = [.ref tx] ∧ H tx = some (TxO K dx S ow sn bg rw mk true) ∧ H ow = some (ClO K dc S nm wk st po) ∧ tx ≠ ow ∧ ∀ H', Fr [tx, ow] H H' → H' tx = some (TxO K dx S ow sn bg rw mk false) → H' ow = some (ClO K dc S nm .non st po) → Q .non H'
theorem sc_Transaction_end : FnScope ["self"] ["self"] (defScope s_Transaction_end) := ⟨rfl, rfl, rfl, by decide +kernel, rfl, by decide +kernel, by decide +kernel⟩
theorem ok_Transaction_end (T : TX w K mg) : FnR P w K mg base CX0 1 (a_Transaction_end K) (sp_Transaction_end K) := by
  obtain ⟨fd, F⟩ := T.fn 53 rfl rfl
  refine fR F sc_Transaction_end (fun _ _ _ _ _ _ us hl => match us, hl with | [_], _ => rfl) (fun vs H Q E h => ?_) (fun cdv A outer s H vs Q E hr h => ?_)
  · obtain ⟨tx, dx, S, ow, sn, bg, rw, mk, dc, nm, wk, st, po, rfl, ht, ho, hne, k⟩ := h
    rfl
  · obtain ⟨tx, dx, S, ow, sn, bg, rw, mk, dc, nm, wk, st, po, rfl, ht, ho, hne, k⟩ := h
    refine ⟨_, (pss_cons (ps_fd (T.cls "Transaction") (T.na "Transaction" "standing") (pv 0) pe_bl)
      (pss_one (ps_fd (T.cls "Client") (T.na "Client" "work") (pe_fd (T.cls "Transaction") (T.na "Transaction" "owner") (pv 0)) pe_non))), ?_⟩
    refine ⟨_, rfl, tx, dx, _, _, rfl, ht, rfl, lt_b rfl, ?_⟩
    refine ⟨_, rfl, _, _, _, _, rfl, upd_same, rfl, ow, dc, _, _, rfl, (upd_ne (Ne.symm hne)).trans ho, rfl, lt_b rfl, k _ ?_ ?_ upd_same⟩
    · exact (Fr.upd (.head _)).trans (Fr.upd (.tail _ (.head _)))
    · rw [upd_ne hne]
      exact upd_same
def sp_Transaction_rollback (K : PySem.W.Frag) : Sp := fun vs H Q E => ∃ tx dx S ow sn bg rw mk dc nm wk st po, vs = [.ref tx] ∧ H tx = some (TxO K dx S ow sn bg rw mk true) ∧ H ow = some (ClO K dc S nm wk st po) ∧ tx ≠ ow ∧ ∀ H', Fr [tx, ow] H H' → H' tx = some (TxO K dx S ow sn bg rw mk false) → H' ow = some (ClO K dc S nm .non st po) → Q .non H'
theorem sc_Transaction_rollback : FnScope ["self"] ["self"] (defScope s_Transaction_rollback) := ⟨rfl, rfl, rfl, by decide +kernel, rfl, by decide +kernel, by decide +kernel⟩
theorem ok_Transaction_rollback (T : TX w K mg) : FnR P w K mg base CX0 2 (a_Transaction_rollback K) (sp_Transaction_rollback K) := by
  obtain ⟨fd, F⟩ := T.fn 52 rfl rfl
  refine fR F sc_Transaction_rollback (fun _ _ _ _ _ _ us hl => match us, hl with | [_], _ => rfl) (fun vs H Q E h => ?_) (fun cdv A outer s H vs Q E hr h => ?_)
  · obtain ⟨tx, dx, S, ow, sn, bg, rw, mk, dc, nm, wk, st, po, rfl, ht, ho, hne, k⟩ := h
    rfl
  · obtain ⟨tx, dx, S, ow, sn, bg, rw, mk, dc, nm, wk, st, po, rfl, ht, ho, hne, k⟩ := h
    refine ⟨_, (pss_cons (ps_expr (pe_me0 (pv 0) (T.cls "Transaction") (T.me "Transaction" "need_open") (ok_Transaction_need_open (P := P) T) (hr.mono (by decide))))
      (pss_one (ps_expr (pe_me0 (pv 0) (T.cls "Transaction") (T.me "Transaction" "end") (ok_Transaction_end (P := P) T) (hr.mono (by decide)))))), ?_⟩
    exact ⟨_, rfl, _, _, _, rfl, ht, rfl, _, _, _, _, _, _, _, _, rfl, ht, _, rfl, _, _, _, rfl, ht, rfl, _, _, _, _, _, _, _, _, _, _, _, _, _, rfl, ht, ho, hne, k⟩
def sp_Transaction_batch (K : PySem.W.Frag) : Sp := fun vs H Q E => ∃ tx dx S ow sn bg rw mk rs rows ds r DC DM PL QL, vs = [.ref tx] ∧ H tx = some (TxO K dx S ow sn bg rw mk true) ∧ H S = some (StO K ds r DC DM PL QL) ∧ lRULES.contains r = true ∧ H rw = some (.lst rs) ∧ Paired (RowT H) rs rows ∧ rows.length < 1000 ∧ One K H (rows.flatMap outSay) ∧
  ∀ H' b db q, Same H H' → H b = none → H' b = some (.ins (He.ga K "Batch") db (BatF r q)) → SqT K H' q (rows.flatMap outSay) → Q (.ref b) H'
theorem sc_Transaction_batch : FnScope ["self", "said", "row"] ["self"] (defScope s_Transaction_batch) := ⟨rfl, rfl, rfl, by decide +kernel, rfl, by decide +kernel, by decide +kernel⟩
theorem ok_Transaction_batch (T : TX w K mg) : FnR P w K mg base CX0 5 (a_Transaction_batch K) (sp_Transaction_batch K) := by
  obtain ⟨fd, F⟩ := T.fn 51 rfl rfl
  refine fR F sc_Transaction_batch (fun _ _ _ _ _ _ us hl => match us, hl with | [_], _ => rfl) (fun vs H Q E h => ?_) (fun cdv A outer s H vs Q E hr h => ?_)
  · obtain ⟨tx, dx, S, ow, sn, bg, rw, mk, rs, rows, ds, r, DC, DM, PL, QL, rfl, ht, hS, hru, hw, hr', hl, ho, k⟩ := h
    rfl
  · obtain ⟨tx, dx, S, ow, sn, bg, rw, mk, rs, rows, ds, r, DC, DM, PL, QL, rfl, ht, hS, hru, hw, hr', hl, ho, k⟩ := h
    refine ⟨_, (pss_cons (ps_expr (pe_me0 (pv 0) (T.cls "Transaction") (T.me "Transaction" "need_open") (ok_Transaction_need_open (P := P) T) (hr.mono (by decide))))
      (pss_cons (ps_setLc (i := 1) (own := [("row", 2)]) rfl sc_Transaction_batch.nd rfl rfl rfl (pi_list (pe_fd (T.cls "Transaction") (T.na "Transaction" "rows") (pv 0))) (blkN sc_Transaction_batch) (fun _ _ _ _ _ => pgn 2 sc_Transaction_batch.nd) (fun _ _ _ _ _ => pts_one (pt_cmpR op_eq (pe_ix (ix_tupK K rfl) (pv 2) pe_int (fun _ _ => rfl)) pe_str (nomark _))) (fun _ _ _ _ _ => pe_ix (ix_tupK K rfl) (pv 2) pe_int (fun _ _ => rfl)))
      (pss_one (ps_ret (pe_mkS (T.mkr "Batch") (ok_Batch___init__ (P := P) T) (hr.mono (by decide)) (by rfl) (T.ref "Batch") (pa_cons (pe_fd (T.cls "Store") (T.na "Store" "rule") (pe_fd (T.cls "Transaction") (T.na "Transaction" "store") (pv 0))) (StX.pa_star (pv 1) pa_nil))))))), ?_⟩
    have hlen : rs.length = rows.length := Paired.length hr'
    have hle : ∀ x, (outSay x).length ≤ 1 := fun r => by cases r <;> simp [outSay]
    refine ⟨_, rfl, _, _, _, rfl, ht, rfl, _, _, _, _, _, _, _, _, rfl, ht, ?_⟩
    refine ⟨_, rfl, _, _, _, _, rfl, ht, rfl, _, rfl, ⟨_, .of hw⟩, fun A hA => lc_it (walk_list (xs := rs)) (LcI H A rows outSay) (LcI.zero hA) (fun _ _ _ p => .of (p.s _ _ hw)) ?_ ?_⟩
    · rintro i x H1 H2 hi p ⟨rfl, hx⟩
      have hi2 : i < rows.length := by omega
      have hri : rows[i]? = some rows[i] := List.getElem?_eq_getElem hi2
      obtain ⟨v, e1, a, rfl, e2⟩ := Paired.at hr' hri
      cases e1.symm.trans hx
      generalize rows[i] = r2 at hri e2
      have e3 := p.s _ _ e2
      refine ⟨rfl, _, rfl, _, _, _, _, rfl, rfl, .of e3, row0 r2, rfl, _, rfl, ?_⟩
      cases r2 with
      | set w =>
        rw [show decide (V.str (rowHead (.set w)) = V.str "say") = false from sF (a := "set") (by decide)]
        exact p.skip hri (fun _ _ e => e) rfl
      | say n =>
        rw [show decide (V.str (rowHead (.say n)) = V.str "say") = true from sT rfl]
        refine ⟨_, rfl, _, _, _, _, rfl, rfl, .of e3, rfl, ?_⟩
        exact p.push hA hri (fun _ _ e => e) rfl (flat_lt hle (by rw [line_eq]; omega))
      | lis =>
        rw [show decide (V.str (rowHead .lis) = V.str "say") = false from sF (a := "listen") (by decide)]
        exact p.skip hri (fun _ _ e => e) rfl
      | unl =>
        rw [show decide (V.str (rowHead .unl) = V.str "say") = false from sF (a := "unlisten") (by decide)]
        exact p.skip hri (fun _ _ e => e) rfl
    · intro H1 p
      rw [hlen] at p
      have eA := p.all
      refine ⟨_, rfl, _, _, _, _, rfl, p.s _ _ ht, rfl, _, _, _, _, rfl, p.s _ _ hS, rfl, _, rfl, _, _, rfl, .inr (.of eA), fun b db n1 n2 ne => ⟨[.ref b, .str r], rows.flatMap outSay, ?_, rfl, ?_, fun p2 n3 => ?_⟩⟩
      · rw [List.append_nil]
        rfl
      · have := flat_le hle rows
        rw [line_eq]
        omega
      · have s1 : Same H (upd H1 db (.own b)) := Same.newT p.s n2
        have n1' : upd H1 db (.own b) b = none := by
          rw [upd_ne (Ne.symm ne)]
          exact n1
        have s2 : Same H (upd (upd (upd H1 db (.own b)) b (.ins (He.ga K "Batch") db [])) p2 (.tup (rows.flatMap outSay))) := Same.newT (Same.newT s1 n1') n3
        refine ⟨b, db, r, p2, rows.flatMap outSay, rfl, Same.new n3 _ _ upd_same, hru, .of upd_same, ho.same s2, fun H' q f hq hb => ⟨rfl, ?_⟩⟩
        have hb0 : H b = none := none_of p.s n1
        refine k _ b db q ?_ hb0 hb hq
        exact (Fr.drop hb0 ((Fr.same s2).trans f)).toSame
    
end
end CN
end
section
set_option Elab.async false
set_option linter.all false
set_option maxRecDepth 100000
set_option maxHeartbeats 4000000
namespace CN
open PySem PySem.Spec PyProof.Rows L2
local macro_rules | `(tactic| trivial) => `(tactic| exact Led.get (by assumption) 9)
local macro_rules | `(tactic| trivial) => `(tactic| exact Led.get (by assumption) 8)
local macro_rules | `(tactic| trivial) => `(tactic| exact Led.get (by assumption) 7)
local macro_rules | `(tactic| trivial) => `(tactic| exact Led.get (by assumption) 6)
local macro_rules | `(tactic| trivial) => `(tactic| exact Led.get (by assumption) 5)
local macro_rules | `(tactic| trivial) => `(tactic| exact Led.get (by assumption) 4)
local macro_rules | `(tactic| trivial) => `(tactic| exact Led.get (by assumption) 3)
local macro_rules | `(tactic| trivial) => `(tactic| exact Led.get (by assumption) 2)
local macro_rules | `(tactic| trivial) => `(tactic| exact Led.get (by assumption) 1)
local macro_rules | `(tactic| trivial) => `(tactic| exact Led.get (by assumption) 0)
section
variable {P : Program} {w : World} {K : PySem.W.Frag} {mg : Str → Option Value} {base : Heap}
/-! ### members -/
def sp_Transaction___init__ (K : PySem.W.Frag) : Sp := fun vs H Q E => ∃ tx dx S ow ds r DC DM PL QL kvs past, vs = [.ref tx, .ref S, .ref ow] ∧ H tx = some (.ins (He.ga K "Transaction") dx []) ∧ H S = some (StO K ds r DC DM PL QL) ∧ H DC = some (.dK kvs) ∧ H PL = some (.lst past) ∧
  ∀ H' sn rw mk, Fr [tx] H H' → H sn = none → H rw = none → H mk = none → rw ≠ mk → H' tx = some (TxO K dx S ow sn (past.length : Int) rw mk true) → H' sn = some (.dK kvs) → H' rw = some (.lst []) → H' mk = some (.lst []) → Q .non H'
theorem sc_Transaction___init__ : FnScope ["self", "store", "owner"] ["self", "store", "owner"] (defScope s_Transaction___init__) := ⟨rfl, rfl, rfl, by decide +kernel, rfl, by decide +kernel, by decide +kernel⟩
theorem ok_Transaction___init__ (T : TX w K mg) : FnR P w K mg base CX0 1 (a_Transaction___init__ K) (sp_Transaction___init__ K) := by
  obtain ⟨fd, F⟩ := T.fn 42 rfl rfl
  refine fR F sc_Transaction___init__ (fun _ _ _ _ _ _ us hl => match us, hl with | [_, _, _], _ => rfl) (fun vs H Q E h => ?_) (fun cdv A outer s H vs Q E hr h => ?_)
  · obtain ⟨tx, dx, S, ow, ds, r, DC, DM, PL, QL, kvs, past, rfl, ht, hS, hD, hP, k⟩ := h
    rfl
  · obtain ⟨tx, dx, S, ow, ds, r, DC, DM, PL, QL, kvs, past, rfl, ht, hS, hD, hP, k⟩ := h
    refine ⟨_, (pss_cons (ps_fd (T.cls "Transaction") (T.na "Transaction" "store") (pv 0) (pv 1))
      (pss_cons (ps_fd (T.cls "Transaction") (T.na "Transaction" "owner") (pv 0) (pv 2))
      (pss_cons (ps_fd (T.cls "Transaction") (T.na "Transaction" "snapshot") (pv 0) (pe_callTy call_dictD (by rfl) (T.free "dict") (by decide +kernel) (pa_cons (pe_fd (T.cls "Store") (T.na "Store" "cells") (pv 1)) pa_nil)))
      (pss_cons (ps_fd (T.cls "Transaction") (T.na "Transaction" "began") (pv 0) (pe_callB call_len_seq (by rfl) (T.free "len") (by decide +kernel) (pa_cons (pe_fd (T.cls "Store") (T.na "Store" "past") (pv 1)) pa_nil)))
      (pss_cons (ps_fd (T.cls "Transaction") (T.na "Transaction" "rows") (pv 0) (pe_lst pa_nil))
      (pss_cons (ps_fd (T.cls "Transaction") (T.na "Transaction" "marks") (pv 0) (pe_lst pa_nil))
      (pss_one (ps_fd (T.cls "Transaction") (T.na "Transaction" "standing") (pv 0) pe_bl)))))))), ?_⟩
    have nS : S ≠ tx := ne_of hS ht fun z => by injection z with _ _ h; exact List.cons_ne_nil _ _ h
    have nD : DC ≠ tx := ne_of hD ht fun z => nomatch z
    have nP : PL ≠ tx := ne_of hP ht fun z => nomatch z
    refine ⟨_, rfl, _, rfl, tx, dx, [], _, rfl, ht, rfl, lt_b rfl, ?_⟩
    refine ⟨_, rfl, _, rfl, tx, dx, _, _, rfl, upd_same, rfl, lt_b rfl, ?_⟩
    generalize e2 : upd (upd H tx _) tx _ = H2
    have et : H2 tx = some (.ins (He.ga K "Transaction") dx [("store", .ref S), ("owner", .ref ow)]) := by
      rw [← e2]
      exact upd_same
    have f2 : Fr [tx] H H2 := by
      rw [← e2]
      exact (Fr.upd (.head _)).trans (Fr.upd (.head _))
    have eS := f2 _ _ hS (by simpa using nS)
    have eD := f2 _ _ hD (by simpa using nD)
    have eP := f2 _ _ hP (by simpa using nP)
    have f2n : ∀ b, H2 b = none → H b = none := fun b hb => by
      cases e : H b with
      | none => rfl
      | some o =>
        by_cases hbt : b = tx
        · rw [hbt, et] at hb
          cases hb
        · have := f2 _ _ e (by simpa using hbt)
          rw [hb] at this
          cases this
    refine ⟨_, rfl, _, _, _, _, rfl, eS, rfl, DC, kvs, rfl, .inl eD, fun sn n1 => ⟨_, rfl, tx, dx, _, _, rfl, Same.new n1 _ _ et, rfl, lt_b rfl, ?_⟩⟩
    have nst : sn ≠ tx := fun e => by rw [e, et] at n1; cases n1
    generalize e3 : upd (upd H2 sn (.dK kvs)) tx _ = H3
    have f3 : Fr [tx] H2 H3 := by
      rw [← e3]
      exact (Fr.new n1).trans (Fr.upd (.head _))
    have et3 : H3 tx = some (.ins (He.ga K "Transaction") dx [("store", .ref S), ("owner", .ref ow), ("snapshot", .ref sn)]) := by
      rw [← e3]
      exact upd_same
    have es3 : H3 sn = some (.dK kvs) := by
      rw [← e3, upd_ne nst]
      exact upd_same
    refine ⟨_, rfl, _, _, _, _, rfl, f3 _ _ eS (by simpa using nS), rfl, _, _, rfl, .inl (.of (f3 _ _ eP (by simpa using nP))), _, rfl, tx, dx, _, _, rfl, et3, rfl, lt_b rfl, ?_⟩
    generalize e4 : upd H3 tx _ = H4
    have f4 : Fr [tx] H3 H4 := by
      rw [← e4]
      exact Fr.upd (.head _)
    have et4 : H4 tx = some (.ins (He.ga K "Transaction") dx [("store", .ref S), ("owner", .ref ow), ("snapshot", .ref sn), ("began", .int (past.length : Int))]) := by
      rw [← e4]
      exact upd_same
    have es4 := f4 _ _ es3 (by simpa using nst)
    have ns4 : ∀ b, H4 b = none → H2 b = none := fun b hb => by
      cases e : H2 b with
      | none => rfl
      | some o =>
        by_cases hbt : b = tx
        · rw [hbt, et4] at hb
          cases hb
        · have := f4 _ _ (f3 _ _ e (by simpa using hbt)) (by simpa using hbt)
          rw [hb] at this
          cases this
    refine ⟨ll rfl, fun rw n2 => ⟨_, rfl, tx, dx, _, _, rfl, Same.new n2 _ _ et4, rfl, lt_b rfl, ?_⟩⟩
    have nrt : rw ≠ tx := fun e => by rw [e, et4] at n2; cases n2
    have nsr : sn ≠ rw := ne_of_none es4 n2
    refine ⟨ll rfl, fun mk n3 => ⟨_, rfl, tx, dx, _, _, rfl, Same.new n3 _ _ upd_same, rfl, lt_b rfl, ?_⟩⟩
    have n3' : H4 mk = none := by
      by_cases h : mk = tx
      · rw [h, upd_same] at n3
        cases n3
      · rw [upd_ne h] at n3
        exact none_of (Same.new n2) n3
    have nmt : mk ≠ tx := fun e => by rw [e, et4] at n3'; cases n3'
    have nmr : rw ≠ mk := by
      rintro rfl
      rw [upd_ne nrt, upd_same] at n3
      cases n3
    refine ⟨_, rfl, tx, dx, _, _, rfl, upd_same, rfl, lt_b rfl, ?_⟩
    refine k _ sn rw mk ?_ (f2n _ n1) (f2n _ (ns4 _ n2)) (f2n _ (ns4 _ n3')) nmr upd_same ?_ ?_ ?_
    · exact ((f2.trans (f3.trans f4)).trans ((Fr.new n2).trans (Fr.upd (.head _)))).trans ((Fr.new n3).trans ((Fr.upd (.head _)).trans (Fr.upd (.head _))))
    · rw [upd_ne nst, upd_ne nst, upd_ne (ne_of_none es4 n3'), upd_ne nst, upd_ne nsr]
      exact es4
    · rw [upd_ne nrt, upd_ne nrt, upd_ne nmr, upd_ne nrt]
      exact upd_same
    · rw [upd_ne nmt, upd_ne nmt]
      exact upd_same
def sp_Member___init__ (K : PySem.W.Frag) : Sp := fun vs H Q E => ∃ c dc S nm, vs = [.ref c, .ref S, .str nm] ∧ H c = some (.ins (He.ga K "Client") dc []) ∧ ∀ H', Fr [c] H H' → H' c = some (.ins (He.ga K "Client") dc [("store", .ref S), ("name", .str nm), ("work", .non)]) → Q .non H'
theorem sc_Member___init__ : FnScope ["self", "store", "name"] ["self", "store", "name"] (defScope s_Member___init__) := ⟨rfl, rfl, rfl, by decide +kernel, rfl, by decide +kernel, by decide +kernel⟩
theorem ok_Member___init__ (T : TX w K mg) : FnR P w K mg base CX0 1 (a_Member___init__ K) (sp_Member___init__ K) := by
  obtain ⟨fd, F⟩ := T.fn 56 rfl rfl
  refine fR F sc_Member___init__ (fun _ _ _ _ _ _ us hl => match us, hl with | [_, _, _], _ => rfl) (fun vs H Q E h => ?_) (fun cdv A outer s H vs Q E hr h => ?_)
  · obtain ⟨c, dc, S, nm, rfl, hc, k⟩ := h
    rfl
  · obtain ⟨c, dc, S, nm, rfl, hc, k⟩ := h
    refine ⟨_, (pss_cons (ps_fd (T.cls "Client") (T.na "Client" "store") (pv 0) (pv 1))
      (pss_cons (ps_fd (T.cls "Client") (T.na "Client" "name") (pv 0) (pv 2))
      (pss_one (ps_fd (T.cls "Client") (T.na "Client" "work") (pv 0) pe_non)))), ?_⟩
    exact ⟨_, rfl, _, rfl, c, dc, [], _, rfl, hc, rfl, lt_b rfl, _, rfl, _, rfl, c, dc, _, _, rfl, upd_same, rfl, lt_b rfl, _, rfl, c, dc, _, _, rfl, upd_same, rfl, lt_b rfl, k _ ((Fr.upd (.head _)).trans ((Fr.upd (.head _)).trans (Fr.upd (.head _)))) upd_same⟩
def sp_Member_need_no_work (K : PySem.W.Frag) : Sp := fun vs H Q E => ∃ c dc S nm st po, vs = [.ref c] ∧ H c = some (ClO K dc S nm .non st po) ∧ Q .non H
theorem sc_Member_need_no_work : FnScope ["self"] ["self"] (defScope s_Member_need_no_work) := ⟨rfl, rfl, rfl, by decide +kernel, rfl, by decide +kernel, by decide +kernel⟩
theorem ok_Member_need_no_work (T : TX w K mg) : FnR P w K mg base CX0 1 (a_Member_need_no_work K) (sp_Member_need_no_work K) := by
  obtain ⟨fd, F⟩ := T.fn 57 rfl rfl
  refine fR F sc_Member_need_no_work (fun _ _ _ _ _ _ us hl => match us, hl with | [_], _ => rfl) (fun vs H Q E h => ?_) (fun cdv A outer s H vs Q E hr h => ?_)
  · obtain ⟨c, dc, S, nm, st, po, rfl, hc, k⟩ := h
    rfl
  · obtain ⟨c, dc, S, nm, st, po, rfl, hc, k⟩ := h
    refine ⟨_, (pss_one (ps_if (pt_cmpR op_notN (pe_fd (T.cls "Client") (T.na "Client" "work") (pv 0)) pe_non (nomark _))
        (pss_one ps_never)
        pss_nil)), ?_⟩
    exact ⟨_, rfl, _, _, _, _, rfl, hc, rfl, rfl, false, rfl, k⟩
def sp_Sender_begin (K : PySem.W.Frag) : Sp := fun vs H Q E => ∃ c dc S nm st po ds r DC DM PL QL kvs past, vs = [.ref c] ∧ H c = some (ClO K dc S nm .non st po) ∧ H S = some (StO K ds r DC DM PL QL) ∧ H DC = some (.dK kvs) ∧ H PL = some (.lst past) ∧
  ∀ H' tx dx sn rw mk, Fr [c] H H' → H tx = none → H sn = none → H rw = none → H mk = none → tx ≠ sn → tx ≠ rw → tx ≠ mk → rw ≠ mk → H' c = some (ClO K dc S nm (.ref tx) st po) → H' tx = some (TxO K dx S c sn (past.length : Int) rw mk true) → H' sn = some (.dK kvs) → H' rw = some (.lst []) → H' mk = some (.lst []) → Q (.ref tx) H'
theorem sc_Sender_begin : FnScope ["self"] ["self"] (defScope s_Sender_begin) := ⟨rfl, rfl, rfl, by decide +kernel, rfl, by decide +kernel, by decide +kernel⟩
theorem ok_Sender_begin (T : TX w K mg) : FnR P w K mg base CX0 3 (a_Sender_begin K) (sp_Sender_begin K) := by
  obtain ⟨fd, F⟩ := T.fn 58 rfl rfl
  refine fR F sc_Sender_begin (fun _ _ _ _ _ _ us hl => match us, hl with | [_], _ => rfl) (fun vs H Q E h => ?_) (fun cdv A outer s H vs Q E hr h => ?_)
  · obtain ⟨c, dc, S, nm, st, po, ds, r, DC, DM, PL, QL, kvs, past, rfl, hc, hS, hD, hP, k⟩ := h
    rfl
  · obtain ⟨c, dc, S, nm, st, po, ds, r, DC, DM, PL, QL, kvs, past, rfl, hc, hS, hD, hP, k⟩ := h
    refine ⟨_, (pss_cons (ps_expr (pe_me0 (pv 0) (T.cls "Client") (T.me "Client" "need_no_work") (ok_Member_need_no_work (P := P) T) (hr.mono (by decide))))
      (pss_cons (ps_fd (T.cls "Client") (T.na "Client" "work") (pv 0) (pe_mk (T.mkr "Transaction") (ok_Transaction___init__ (P := P) T) (hr.mono (by decide)) (by rfl) (T.ref "Transaction") (pa_cons (pe_fd (T.cls "Client") (T.na "Client" "store") (pv 0)) (pa_cons (pv 0) pa_nil))))
      (pss_one (ps_ret (pe_fd (T.cls "Client") (T.na "Client" "work") (pv 0)))))), ?_⟩
    refine ⟨_, rfl, _, _, _, rfl, hc, rfl, _, _, _, _, _, _, rfl, hc, ?_⟩
    refine ⟨_, rfl, _, _, _, _, rfl, hc, rfl, _, rfl, fun tx dx n1 n2 ne => ?_⟩
    have s1 : Same H (upd (upd H dx (.own tx)) tx (.ins (He.ga K "Transaction") dx [])) := (Same.new n2).trans (Same.new (by rw [upd_ne (Ne.symm ne)]; exact n1))
    have nof : ∀ b, upd (upd H dx (.own tx)) tx (.ins (He.ga K "Transaction") dx []) b = none → H b = none := fun b h => none_of s1 h
    refine ⟨tx, dx, S, c, ds, r, DC, DM, PL, QL, kvs, past, rfl, upd_same, s1 _ _ hS, s1 _ _ hD, s1 _ _ hP, fun H1 sn rw mk f1 k1 k2 k3 k4 e1 e2 e3 e4 => ⟨rfl, ?_⟩⟩
    have sx : Same H H1 := (Fr.drop n1 ((Fr.same s1).trans f1)).toSame
    have hc1 := sx _ _ hc
    have ntc : tx ≠ c := Ne.symm (ne_of_none hc n1)
    have nsc : sn ≠ c := Ne.symm (ne_of_none hc (nof _ k1))
    have nrc : rw ≠ c := Ne.symm (ne_of_none hc (nof _ k2))
    have nmc : mk ≠ c := Ne.symm (ne_of_none hc (nof _ k3))
    refine ⟨_, rfl, c, dc, _, _, rfl, hc1, rfl, lt_b rfl, ?_⟩
    refine ⟨_, rfl, c, dc, _, _, rfl, upd_same, rfl, ?_⟩
    have nts : tx ≠ sn := fun e => by rw [← e, upd_same] at k1; cases k1
    have ntr : tx ≠ rw := fun e => by rw [← e, upd_same] at k2; cases k2
    have ntm : tx ≠ mk := fun e => by rw [← e, upd_same] at k3; cases k3
    exact k _ tx dx sn rw mk ((Fr.same sx).trans (Fr.upd (.head _))) n1 (nof _ k1) (nof _ k2) (nof _ k3) nts ntr ntm k4 upd_same (by rw [upd_ne ntc]; exact e1) (by rw [upd_ne nsc]; exact e2) (by rw [upd_ne nrc]; exact e3) (by rw [upd_ne nmc]; exact e4)
def wkL : V → List Addr
  | .ref t => [t]
  | _ => []
def sp_Listener_disconnect (K : PySem.W.Frag) : Sp := fun vs H Q E => ∃ c dc S nm wk st po, vs = [.ref c] ∧ H c = some (ClO K dc S nm wk st po) ∧ (wk = .non ∨ ∃ tx dx sn bg rw mk, wk = .ref tx ∧ H tx = some (TxO K dx S c sn bg rw mk true) ∧ tx ≠ c) ∧
  ∀ H' st', Fr (c :: wkL wk) H H' → H st' = none → H' st' = some (.dK []) → H' c = some (ClO K dc S nm .non st' .non) → Q .non H'
theorem sc_Listener_disconnect : FnScope ["self"] ["self"] (defScope s_Listener_disconnect) := ⟨rfl, rfl, rfl, by decide +kernel, rfl, by decide +kernel, by decide +kernel⟩
theorem ok_Listener_disconnect (T : TX w K mg) : FnR P w K mg base CX0 3 (a_Listener_disconnect K) (sp_Listener_disconnect K) := by
  obtain ⟨fd, F⟩ := T.fn 63 rfl rfl
  refine fR F sc_Listener_disconnect (fun _ _ _ _ _ _ us hl => match us, hl with | [_], _ => rfl) (fun vs H Q E h => ?_) (fun cdv A outer s H vs Q E hr h => ?_)
  · obtain ⟨c, dc, S, nm, wk, st, po, rfl, hc, hw, k⟩ := h
    rfl
  · obtain ⟨c, dc, S, nm, wk, st, po, rfl, hc, hw, k⟩ := h
    refine ⟨_, (pss_cons (ps_if (pt_cmpR op_notN (pe_fd (T.cls "Client") (T.na "Client" "work") (pv 0)) pe_non (nomark _))
        (pss_one (ps_expr (pe_me0 (pe_fd (T.cls "Client") (T.na "Client" "work") (pv 0)) (T.cls "Transaction") (T.me "Transaction" "rollback") (ok_Transaction_rollback (P := P) T) (hr.mono (by decide)))))
        pss_nil)
      (pss_cons (ps_fd (T.cls "Client") (T.na "Client" "starts") (pv 0) pe_dnewK)
      (pss_one (ps_fd (T.cls "Client") (T.na "Client" "position") (pv 0) pe_non)))), ?_⟩
    rcases hw with rfl | ⟨tx, dx, sn, bg, rw, mk, rfl, ht, hne⟩
    · refine ⟨_, rfl, _, _, _, _, rfl, hc, rfl, rfl, false, rfl, fun st' n1 => ⟨_, rfl, c, dc, _, _, rfl, Same.new n1 _ _ hc, rfl, lt_b rfl, _, rfl, c, dc, _, _, rfl, upd_same, rfl, lt_b rfl, ?_⟩⟩
      have nc : st' ≠ c := Ne.symm (ne_of_none hc n1)
      exact k _ st' ((Fr.new n1).trans ((Fr.upd (.head _)).trans (Fr.upd (.head _)))) n1 (by rw [upd_ne nc, upd_ne nc]; exact upd_same) upd_same
    · refine ⟨_, rfl, _, _, _, _, rfl, hc, rfl, rfl, true, rfl, ?_⟩
      refine ⟨_, rfl, _, _, _, _, rfl, hc, rfl, _, _, _, rfl, ht, rfl, _, _, _, _, _, _, _, _, _, _, _, _, _, rfl, ht, hc, hne, fun H1 f1 e1 e2 => ?_⟩
      refine fun st' n1 => ⟨_, rfl, c, dc, _, _, rfl, Same.new n1 _ _ e2, rfl, lt_b rfl, _, rfl, c, dc, _, _, rfl, upd_same, rfl, lt_b rfl, ?_⟩
      have nc : st' ≠ c := Ne.symm (ne_of_none e2 n1)
      have nt : st' ≠ tx := Ne.symm (ne_of_none e1 n1)
      have n0 : H st' = none := by
        cases e : H st' with
        | none => rfl
        | some o =>
          have := f1 _ _ e (by simp [nc, nt])
          rw [n1] at this
          cases this
      refine k _ st' ?_ n0 (by rw [upd_ne nc, upd_ne nc]; exact upd_same) upd_same
      refine (f1.mono fun b hb => ?_).trans ((Fr.new n1).trans ((Fr.upd (.head _)).trans (Fr.upd (.head _))))
      simp at hb ⊢
      rcases hb with rfl | rfl
      · exact .inr (by simp [wkL])
      · exact .inl rfl
    
end
end CN
end
section
set_option Elab.async false
set_option linter.all false
set_option maxRecDepth 100000
set_option maxHeartbeats 4000000
namespace CN
open PySem PySem.Spec PyProof.Rows L2
local macro_rules | `(tactic| trivial) => `(tactic| exact Led.get (by assumption) 9)
local macro_rules | `(tactic| trivial) => `(tactic| exact Led.get (by assumption) 8)
local macro_rules | `(tactic| trivial) => `(tactic| exact Led.get (by assumption) 7)
local macro_rules | `(tactic| trivial) => `(tactic| exact Led.get (by assumption) 6)
local macro_rules | `(tactic| trivial) => `(tactic| exact Led.get (by assumption) 5)
local macro_rules | `(tactic| trivial) => `(tactic| exact Led.get (by assumption) 4)
local macro_rules | `(tactic| trivial) => `(tactic| exact Led.get (by assumption) 3)
local macro_rules | `(tactic| trivial) => `(tactic| exact Led.get (by assumption) 2)
local macro_rules | `(tactic| trivial) => `(tactic| exact Led.get (by assumption) 1)
local macro_rules | `(tactic| trivial) => `(tactic| exact Led.get (by assumption) 0)
section
variable {P : Program} {w : World} {K : PySem.W.Frag} {mg : Str → Option Value} {base : Heap}
def sV : Option Nat → List (Key × V)
  | none => []
  | some n => [(kA, .int (n : Int))]
def wV : Option Str → List (Key × V)
  | none => []
  | some z => [(kA, .str z)]
def pV : Option Nat → V
  | none => .non
  | some n => .int (n : Int)
def behS (total : Nat) (sl po : Option Nat) (wl : Option Str) : Option Nat × Option Nat :=
  let sl1 := if wl = some "unlisten" then none else sl
  let po1 := if sl1.isSome then po else none
  if wl = some "listen" ∧ sl1 = none then (some total, some total) else (sl1, po1)
theorem Same.unlock {H H' : Hp} {d : Addr} {u : HO} {od : Obj} (s : Same (upd H d (.frz od u)) H') (h : H d = some u) : Same H (upd H' d u) := fun b o e => by
  by_cases hb : b = d
  · rw [hb, h] at e
    cases e
    rw [hb, upd_same]
  · rw [upd_ne hb]
    exact s b o (by rw [upd_ne hb]; exact e)
theorem Same.wrS {H H' : Hp} {d : Addr} {u : HO} (s : Same H H') (h : H' d = some u) : Same H (upd H' d u) := fun b o e => by
  by_cases hb : b = d
  · have := s b o e
    rw [hb] at this ⊢
    rw [upd_same, ← h]
    exact this
  · rw [upd_ne hb]
    exact s b o e
theorem upd_comm_ne {H : Hp} {a b : Addr} {o u : HO} (h : a ≠ b) : upd (upd H a o) b u = upd (upd H b u) a o := by
  funext c
  unfold upd
  by_cases h1 : c = b
  · rw [if_pos h1, if_neg (fun e => h (e.symm.trans h1)), if_pos h1]
  · rw [if_neg h1]
    by_cases h2 : c = a
    · rw [if_pos h2, if_pos h2]
    · rw [if_neg h2, if_neg h2, if_neg h1]
theorem valA (z : Option Str) : valV (wV z) kA = z.map V.str := by
  cases z with
  | none => rfl
  | some w => exact valV_pos rfl
theorem valS (z : Option Nat) : valV (sV z) kA = z.map fun n => V.int (n : Int) := by
  cases z with
  | none => rfl
  | some w => exact valV_pos rfl
def sp_Listener_behind (K : PySem.W.Frag) : Sp := fun vs H Q E => ∃ c dc S nm wk st po D sl wl ds r DC DM PL QL qs, vs = [.ref c, .ref D] ∧ H c = some (ClO K dc S nm wk st (pV po)) ∧ H S = some (StO K ds r DC DM PL QL) ∧ H QL = some (.lst qs) ∧ H st = some (.dK (sV sl)) ∧ H D = some (.dK (wV wl)) ∧ (wl = none ∨ wl = some "listen" ∨ wl = some "unlisten") ∧ D ≠ st ∧
  ∀ H' t st', Same H H' → H st' = none → SqT K H' t [.ref st', pV (behS qs.length sl po wl).2] → H' st' = some (.dK (sV (behS qs.length sl po wl).1)) → Q (.ref t) H'
theorem sc_Listener_behind : FnScope ["self", "wishes", "total", "starts", "name", "at", "position", "wish"] ["self", "wishes"] (defScope s_Listener_behind) := ⟨rfl, rfl, rfl, by decide +kernel, rfl, by decide +kernel, by decide +kernel⟩
theorem ok_Listener_behind (T : TX w K mg) : FnR P w K mg base CX0 1 (a_Listener_behind K) (sp_Listener_behind K) := by
  obtain ⟨fd, F⟩ := T.fn 61 rfl rfl
  refine fR F sc_Listener_behind (fun _ _ _ _ _ _ us hl => match us, hl with | [_, _], _ => rfl) (fun vs H Q E h => ?_) (fun cdv A outer s H vs Q E hr h => ?_)
  · obtain ⟨c, dc, S, nm, wk, st, po, D, sl, wl, ds, r, DC, DM, PL, QL, qs, rfl, hc, hS, hQ, hst, hD, hwl, hne, k⟩ := h
    rfl
  · obtain ⟨c, dc, S, nm, wk, st, po, D, sl, wl, ds, r, DC, DM, PL, QL, qs, rfl, hc, hS, hQ, hst, hD, hwl, hne, k⟩ := h
    refine ⟨_, (pss_cons (pst 2 sc_Listener_behind.nd (pe_callB call_len_seq (by rfl) (T.free "len") (by decide +kernel) (pa_cons (pe_fd (T.cls "Store") (T.na "Store" "queue") (pe_fd (T.cls "Client") (T.na "Client" "store") (pv 0))) pa_nil)))
      (pss_cons (ps_lock (ps_setDc (i := 3) (own := [("name", 4), ("at", 5)]) rfl sc_Listener_behind.nd rfl rfl rfl (pi_items (pe_fd (T.cls "Client") (T.na "Client" "starts") (pv 0))) (blkN sc_Listener_behind) (fun _ _ _ _ _ => pg_tupK K 2 rfl rfl (pgs_cons (pgn 4 sc_Listener_behind.nd) (pgs_cons (pgn 5 sc_Listener_behind.nd) pgs_nil))) (fun _ _ _ _ _ => pts_one (pt_cmpR op_ne (pe_dget2 (hu_of hr) (pv 1) (pv 4) pe_str ⟨by rfl, by rfl, by rfl, by rfl⟩) pe_str (nomark _))) (fun _ _ _ _ _ => pv 4) (fun _ _ _ _ _ => pv 5)))
      (pss_cons (pst 6 sc_Listener_behind.nd (pe_ifExp (pt_cmpR op_gt (pe_callB call_lenD (by rfl) (T.free "len") (by decide +kernel) (pa_cons (pv 3) pa_nil)) pe_int (nomark _)) (pe_fd (T.cls "Client") (T.na "Client" "position") (pv 0)) pe_non))
      (pss_cons (ps_lock (ps_for PassesOwn.never rfl (pi_items (pv 1)) (pg_tup rfl (pgs_cons (pgn 4 sc_Listener_behind.nd) (pgs_cons (pgn 7 sc_Listener_behind.nd) pgs_nil)))
        (pss_one (ps_if (PW.pt (pw_and (pt_cmpR op_eq (pv 7) pe_str (nomark _)) (pw_and1 (pt_cmp (pc_dnotin (hu_of hr) (pv 4) (pv 3))))))
          (pss_cons (ps_dput (hu_of hr) (pv 3) (pv 4) (pv 2) rfl)
          (pss_one (pst 6 sc_Listener_behind.nd (pe_ifExp (pt_cmpR op_isN (pv 6) pe_non (nomark _)) (pv 2) (pv 6)))))
          pss_nil))))
      (pss_one (ps_ret (pe_tup (pa_cons (pv 3) (pa_cons (pv 6) pa_nil))))))))), ?_⟩
    have ncs : c ≠ st := ne_of hc hst fun z => nomatch z
    have ncD : c ≠ D := ne_of hc hD fun z => nomatch z
    refine ⟨_, rfl, _, _, _, _, rfl, hc, rfl, _, _, _, _, rfl, hS, rfl, _, _, rfl, .inl (.of hQ), ?_⟩
    refine ⟨st, _, hst, True.intro, fun od => ?_⟩
    refine ⟨_, rfl, _, _, _, _, rfl, (upd_ne ncs).trans hc, rfl, st, od, _, rfl, upd_same, fun A hA => ?_⟩
    have hAst : A ≠ st := fun e => by rw [e, upd_same] at hA; cases hA
    have hA0 : H A = none := by rwa [upd_ne hAst] at hA
    have hkeep : Key × V → List (Key × V) := fun p => if wl = some "unlisten" then [] else [p]
    refine dc_it walk_items (DcI (upd H st (.frz od (.dK (sV sl)))) A (sV sl) (fun p => if wl = some "unlisten" then [] else [p])) (DcI.zero hA) (fun _ _ _ p => p.s _ _ upd_same) ?_ ?_
    · rintro i x H1 _ hi p ⟨T', y, z, rfl, nT, rfl, hy, hz⟩
      obtain ⟨n, rfl⟩ : ∃ n, sl = some n := by
        cases sl with
        | none => exact absurd hi (Nat.not_lt_zero _)
        | some n => exact ⟨n, rfl⟩
      have hi0 : i = 0 := by
        have : i < 1 := hi
        omega
      subst hi0
      cases hy
      cases hz
      have hD1 : upd H1 T' (.tup [kV kA, .int (n : Int)]) D = some (.dK (wV wl)) := Same.new nT _ _ (p.s _ _ ((upd_ne hne).trans hD))
      refine ⟨_, _, rfl, .of upd_same, rfl, _, _, rfl, _, _, rfl, ⟨rfl, rfl, ?_⟩⟩
      refine ⟨_, rfl, D, rfl, .inl ⟨_, .inl hD1⟩, _, rfl, _, DGet.k (k := kA) hD1, ?_⟩
      rw [valA]
      have hle : ∀ q : Key × V, (if wl = some "unlisten" then ([] : List (Key × V)) else [q]).length ≤ 1 := fun q => by split <;> simp
      rcases hwl with rfl | rfl | rfl
      · refine ⟨rfl, true, congrArg (fun b => V.bl (!b)) (sF (a := "") (b := "unlisten") (by decide)), _, rfl, _, rfl, ?_⟩
        exact p.push hA rfl (Same.new nT) (k := kA) rfl rfl (dc_lt hle (by show 1 < 1000; decide))
      · refine ⟨rfl, true, congrArg (fun b => V.bl (!b)) (sF (a := "listen") (b := "unlisten") (by decide)), _, rfl, _, rfl, ?_⟩
        exact p.push hA rfl (Same.new nT) (k := kA) rfl rfl (dc_lt hle (by show 1 < 1000; decide))
      · refine ⟨rfl, false, congrArg (fun b => V.bl (!b)) (sT (a := "unlisten") (b := "unlisten") rfl), ?_⟩
        exact p.skip (x := (kA, .int (n : Int))) rfl (Same.new nT) rfl
    · intro H1 p
      have eA := p.all
      have ek : putAll ((sV sl).flatMap (fun p => if wl = some "unlisten" then [] else [p])) [] = sV (if wl = some "unlisten" then none else sl) := by
        by_cases h : wl = some "unlisten"
        · simp only [if_pos h]
          cases sl <;> rfl
        · simp only [if_neg h]
          cases sl <;> rfl
      rw [ek] at eA
      refine ⟨p.s _ _ upd_same, ?_⟩
      have sH : Same H (upd H1 st (.dK (sV sl))) := Same.unlock p.s hst
      have eA2 : upd H1 st (.dK (sV sl)) A = some (.dK (sV (if wl = some "unlisten" then none else sl))) := by
        rw [upd_ne hAst]
        exact eA
      generalize upd H1 st (.dK (sV sl)) = H2 at sH eA2 ⊢
      have hl1 : (sV (if wl = some "unlisten" then none else sl)).length = if (if wl = some "unlisten" then none else sl).isSome then 1 else 0 := by
        cases (if wl = some "unlisten" then none else sl) <;> rfl
      generalize hsl1 : (if wl = some "unlisten" then none else sl) = sl1 at eA2 hl1
      have hDA : D ≠ A := fun e => by rw [e, hA0] at hD; cases hD
      have hbeh : behS qs.length sl po wl = if wl = some "listen" ∧ sl1 = none then (some qs.length, some qs.length) else (sl1, if sl1.isSome then po else none) := by
        unfold behS
        rw [hsl1]
      have hc2 := sH _ _ hc
      have hD2 := sH _ _ hD
      cases sl1 with
      | none =>
        refine ⟨_, rfl, A, _, rfl, eA2, _, _, rfl, rfl, false, rfl, ?_⟩
        refine ⟨D, _, hD2, True.intro, fun od2 => ⟨_, rfl, D, od2, _, rfl, upd_same, ?_⟩⟩
        refine for_it walk_items (fun i σ H' => ∃ u4 u5 u7 slx pox, σ = [some (.ref c), some (.ref D), some (.int (qs.length : Int)), some (.ref A), u4, u5, some (pV pox), u7] ∧ H' D = some (.frz od2 (.dK (wV wl))) ∧ Same H (upd H' D (.dK (wV wl))) ∧ H' A = some (.dK (sV slx)) ∧ (slx, pox) = (if i < (wV wl).length then (none, none) else behS qs.length sl po wl)) ?_ ?_ ?_ ?_
        · refine ⟨_, _, _, none, none, rfl, upd_same, ?_, (upd_ne (Ne.symm hDA)).trans eA2, ?_⟩
          · rw [upd_upd]
            exact Same.wrS sH hD2
          · rcases hwl with rfl | rfl | rfl
            · rw [if_neg (show ¬ 0 < (wV none).length from Nat.lt_irrefl 0), hbeh, if_neg (fun h => nomatch h.1)]
              rfl
            · rw [if_pos (by decide)]
            · rw [if_pos (by decide)]
        · rintro i σ H' _ ⟨_, _, _, _, _, rfl, e, _⟩
          exact e
        · rintro i x σ H3 _ hi ⟨u4, u5, u7, slx, pox, rfl, q1, q2, q3, q4⟩ ⟨T', y, z, rfl, nT, rfl, hy, hz⟩
          obtain ⟨w, rfl⟩ : ∃ w, wl = some w := by
            cases wl with
            | none => exact absurd hi (Nat.not_lt_zero _)
            | some n => exact ⟨n, rfl⟩
          have hi0 : i = 0 := by
            have : i < 1 := hi
            omega
          subst hi0
          cases hy
          cases hz
          rw [if_pos (by show 0 < 1; decide)] at q4
          cases q4
          have eA4 := Same.new (o := .tup [kV kA, .str w]) nT _ _ q3
          have eD4 := Same.new (o := .tup [kV kA, .str w]) nT _ _ q1
          have nTD : T' ≠ D := fun e => by rw [e, q1] at nT; cases nT
          have nTA : T' ≠ A := fun e => by rw [e, q3] at nT; cases nT
          have q2' : Same H (upd (upd H3 T' (.tup [kV kA, .str w])) D (.dK (wV (some w)))) := fun b o e => by
            have h := q2 b o e
            by_cases hb : b = D
            · rw [hb, upd_same] at h ⊢
              exact h
            · rw [upd_ne hb] at h ⊢
              rw [upd_ne (fun e2 => by rw [e2, nT] at h; cases h)]
              exact h
          refine ⟨_, _, rfl, .of upd_same, rfl, _, _, rfl, _, _, rfl, rfl, ?_⟩
          rcases hwl with h | h | h
          · cases h
          · cases h
            refine ⟨_, rfl, rfl, true, congrArg V.bl (sT rfl), _, rfl, _, rfl, A, _, rfl, DGet.k (k := kA) eA4, ?_⟩
            rw [valS]
            refine ⟨true, rfl, ?_⟩
            refine ⟨_, rfl, _, rfl, _, rfl, A, _, rfl, DPut.k (k := kA) eA4 (by show 0 < sizeLine; exact ls rfl), ?_⟩
            refine ⟨_, rfl, rfl, true, rfl, _, rfl, ?_⟩
            refine ⟨_, _, _, some qs.length, some qs.length, rfl, (upd_ne hDA).trans eD4, ?_, upd_same, ?_⟩
            · rw [upd_comm_ne (Ne.symm hDA)]
              exact Same.wr q2' hA0
            · rw [if_neg (by decide), hbeh, if_pos ⟨rfl, rfl⟩]
          · cases h
            refine ⟨_, rfl, rfl, false, congrArg V.bl (sF (a := "unlisten") (b := "listen") (by decide)), ?_⟩
            refine ⟨_, _, _, none, none, rfl, eD4, q2', eA4, ?_⟩
            rw [if_neg (by decide), hbeh, if_neg (fun h => absurd h.1 (by decide))]
            rfl
        · rintro σ H' ⟨u4, u5, u7, slx, pox, rfl, q1, q2, q3, q4⟩
          rw [if_neg (Nat.lt_irrefl _)] at q4
          refine ⟨q1, ?_⟩
          refine ⟨_, rfl, _, rfl, ll rfl, fun t nt => ?_⟩
          have hDAn : A ≠ D := Ne.symm hDA
          refine k _ t A (Same.newT q2 nt) hA0 (.of ?_) ?_
          · rw [upd_same, ← q4]
          · rw [← q4]
            exact Same.new nt _ _ ((upd_ne hDAn).trans q3)
      | some n0 =>
        refine ⟨_, rfl, A, _, rfl, eA2, _, _, rfl, rfl, true, rfl, _, rfl, _, _, _, _, rfl, hc2, rfl, ?_⟩
        refine ⟨D, _, hD2, True.intro, fun od2 => ⟨_, rfl, D, od2, _, rfl, upd_same, ?_⟩⟩
        refine for_it walk_items (fun i σ H' => ∃ u4 u5 u7 slx pox, σ = [some (.ref c), some (.ref D), some (.int (qs.length : Int)), some (.ref A), u4, u5, some (pV pox), u7] ∧ H' D = some (.frz od2 (.dK (wV wl))) ∧ Same H (upd H' D (.dK (wV wl))) ∧ H' A = some (.dK (sV slx)) ∧ (slx, pox) = (if i < (wV wl).length then ((some n0), po) else behS qs.length sl po wl)) ?_ ?_ ?_ ?_
        · refine ⟨_, _, _, (some n0), po, rfl, upd_same, ?_, (upd_ne (Ne.symm hDA)).trans eA2, ?_⟩
          · rw [upd_upd]
            exact Same.wrS sH hD2
          · rcases hwl with rfl | rfl | rfl
            · rw [if_neg (show ¬ 0 < (wV none).length from Nat.lt_irrefl 0), hbeh, if_neg (fun h => nomatch h.1)]
              rfl
            · rw [if_pos (by decide)]
            · rw [if_pos (by decide)]
        · rintro i σ H' _ ⟨_, _, _, _, _, rfl, e, _⟩
          exact e
        · rintro i x σ H3 _ hi ⟨u4, u5, u7, slx, pox, rfl, q1, q2, q3, q4⟩ ⟨T', y, z, rfl, nT, rfl, hy, hz⟩
          obtain ⟨w, rfl⟩ : ∃ w, wl = some w := by
            cases wl with
            | none => exact absurd hi (Nat.not_lt_zero _)
            | some n => exact ⟨n, rfl⟩
          have hi0 : i = 0 := by
            have : i < 1 := hi
            omega
          subst hi0
          cases hy
          cases hz
          rw [if_pos (by show 0 < 1; decide)] at q4
          cases q4
          have eA4 := Same.new (o := .tup [kV kA, .str w]) nT _ _ q3
          have eD4 := Same.new (o := .tup [kV kA, .str w]) nT _ _ q1
          have nTD : T' ≠ D := fun e => by rw [e, q1] at nT; cases nT
          have nTA : T' ≠ A := fun e => by rw [e, q3] at nT; cases nT
          have q2' : Same H (upd (upd H3 T' (.tup [kV kA, .str w])) D (.dK (wV (some w)))) := fun b o e => by
            have h := q2 b o e
            by_cases hb : b = D
            · rw [hb, upd_same] at h ⊢
              exact h
            · rw [upd_ne hb] at h ⊢
              rw [upd_ne (fun e2 => by rw [e2, nT] at h; cases h)]
              exact h
          refine ⟨_, _, rfl, .of upd_same, rfl, _, _, rfl, _, _, rfl, rfl, ?_⟩
          rcases hwl with h | h | h
          · cases h
          · cases h
            refine ⟨_, rfl, rfl, true, congrArg V.bl (sT rfl), _, rfl, _, rfl, A, _, rfl, DGet.k (k := kA) eA4, ?_⟩
            rw [valS]
            refine ⟨false, rfl, ?_⟩
            refine ⟨_, _, _, some n0, po, rfl, eD4, q2', eA4, ?_⟩
            rw [if_neg (by decide), hbeh, if_neg (fun h => nomatch h.2)]
            rfl
          · cases h
            refine ⟨_, rfl, rfl, false, congrArg V.bl (sF (a := "unlisten") (b := "listen") (by decide)), ?_⟩
            refine ⟨_, _, _, (some n0), po, rfl, eD4, q2', eA4, ?_⟩
            rw [if_neg (by decide), hbeh, if_neg (fun h => absurd h.1 (by decide))]
            rfl
        · rintro σ H' ⟨u4, u5, u7, slx, pox, rfl, q1, q2, q3, q4⟩
          rw [if_neg (Nat.lt_irrefl _)] at q4
          refine ⟨q1, ?_⟩
          refine ⟨_, rfl, _, rfl, ll rfl, fun t nt => ?_⟩
          have hDAn : A ≠ D := Ne.symm hDA
          refine k _ t A (Same.newT q2 nt) hA0 (.of ?_) ?_
          · rw [upd_same, ← q4]
          · rw [← q4]
            exact Same.new nt _ _ ((upd_ne hDAn).trans q3)
    
end
end CN
end
section
set_option Elab.async false
set_option linter.all false
set_option maxRecDepth 100000
set_option maxHeartbeats 4000000
namespace CN
open PySem PySem.Spec PyProof.Rows L2
local macro_rules | `(tactic| trivial) => `(tactic| exact Led.get (by assumption) 9)
local macro_rules | `(tactic| trivial) => `(tactic| exact Led.get (by assumption) 8)
local macro_rules | `(tactic| trivial) => `(tactic| exact Led.get (by assumption) 7)
local macro_rules | `(tactic| trivial) => `(tactic| exact Led.get (by assumption) 6)
local macro_rules | `(tactic| trivial) => `(tactic| exact Led.get (by assumption) 5)
local macro_rules | `(tactic| trivial) => `(tactic| exact Led.get (by assumption) 4)
local macro_rules | `(tactic| trivial) => `(tactic| exact Led.get (by assumption) 3)
local macro_rules | `(tactic| trivial) => `(tactic| exact Led.get (by assumption) 2)
local macro_rules | `(tactic| trivial) => `(tactic| exact Led.get (by assumption) 1)
local macro_rules | `(tactic| trivial) => `(tactic| exact Led.get (by assumption) 0)
section
variable {P : Program} {w : World} {K : PySem.W.Frag} {mg : Str → Option Value} {base : Heap}
def QuT (K : PySem.W.Frag) (H : Hp) (v : V) (e : Nat × Str) : Prop := ∃ a n dn, v = .ref a ∧ H a = some (.tup [.int (e.1 : Int), .ref n]) ∧ H n = some (.ins (He.ga K "Notice") dn (NoteF "a" e.2))
theorem QuT.same {H H' : Hp} (s : Same H H') {v : V} {e : Nat × Str} : QuT K H v e → QuT K H' v e := fun ⟨a, n, dn, h1, h2, h3⟩ => ⟨a, n, dn, h1, s _ _ h2, s _ _ h3⟩
def iL (p n : Nat) : List V := List.map (fun j : Nat => V.int (j : Int)) (List.range' p n)
theorem iL_step {p i : Nat} (h : p ≤ i) : iL p (i + 1 - p) = iL p (i - p) ++ [.int (i : Int)] := by
  unfold iL
  rw [show i + 1 - p = (i - p) + 1 by omega, List.range'_1_concat, List.map_append, show p + (i - p) = i by omega]
  rfl
theorem iL_zero {p i : Nat} (h : i < p) : iL p (i + 1 - p) = iL p (i - p) := by
  rw [show i + 1 - p = 0 by omega, show i - p = 0 by omega]
theorem drop_iL {qs : List V} {p : Nat} : (List.range' p (qs.length - p)).flatMap (fun j => [qs.getD j .non]) = qs.drop p := by
  rw [flat_one]
  apply List.ext_getElem?
  intro i
  rw [List.getElem?_map, List.getElem?_drop]
  by_cases h : i < qs.length - p
  · rw [List.getElem?_range' h]
    simp only [Option.map_some]
    rw [List.getD_eq_getElem?_getD]
    have h2 : p + 1 * i < qs.length := by omega
    rw [show p + 1 * i = p + i by omega] at h2 ⊢
    rw [List.getElem?_eq_getElem h2]
    rfl
  · rw [List.getElem?_eq_none (by rw [List.length_range']; omega), List.getElem?_eq_none (by omega)]
    rfl
def sb_Listener_receive (K : PySem.W.Frag) : Sp := fun vs H Q E => ∃ c dc S nm st po sl ds r DC DM PL QL qs que, vs = [.ref c, .int 200] ∧ H c = some (ClO K dc S nm .non st (pV po)) ∧ H S = some (StO K ds r DC DM PL QL) ∧ H QL = some (.lst qs) ∧ Paired (QuT K H) qs que ∧ que.length ≤ 100 ∧ H st = some (.dK (sV sl)) ∧
  (po = none ∨ ∃ p s0, po = some p ∧ sl = some s0 ∧ s0 ≤ p ∧ p ≤ que.length) ∧
  ∀ H' L, Fr [c] H H' → H L = none → H' L = some (.lst (match po with | none => [] | some p => qs.drop p)) → H' c = some (ClO K dc S nm .non st (pV (po.map fun _ => que.length))) → Q (.ref L) H'
theorem sc_Listener_receive : FnScope ["self", "most", "waiting", "at", "number", "notice", "some"] ["self", "most"] (defScope s_Listener_receive) := ⟨rfl, rfl, rfl, by decide +kernel, rfl, by decide +kernel, by decide +kernel⟩
def sp_Listener_receive (K : PySem.W.Frag) : Sp := fun vs H Q E => sb_Listener_receive K (vs ++ [.int 200]) H Q E
theorem ok_Listener_receive (T : TX w K mg) : FnR P w K mg base CX0 2 (a_Listener_receive K) (sp_Listener_receive K) := by
  obtain ⟨fd, F⟩ := T.fn 62 rfl rfl
  refine fK (sp := sb_Listener_receive K) F sc_Listener_receive (fun D doc pm an cdv ct u v => ⟨_, _, _, _, _, _, rfl, rfl, rfl⟩) (fun vs H Q E h => ?_) (fun cdv A outer s H vs Q E hr h => ?_)
  · obtain ⟨c, dc, S, nm, st, po, sl, ds, r, DC, DM, PL, QL, qs, que, rfl, hc, hS, hQ, hP, hl, hst, hpo, k⟩ := h
    rfl
  · obtain ⟨c, dc, S, nm, st, po, sl, ds, r, DC, DM, PL, QL, qs, que, rfl, hc, hS, hQ, hP, hl, hst, hpo, k⟩ := h
    refine ⟨_, (pss_cons (ps_if (pt_not (pt_val (pe_cf (ok_is_between (P := P) T) (hr.mono (by decide)) (by rfl) (T.gf "is_between") (pa_cons (pv 1) (pa_cons pe_int (pa_cons (pe_gint rfl (T.gint "MOST" (200))) pa_nil))))))
        (pss_one ps_never)
        pss_nil)
      (pss_cons (ps_expr (pe_me0 (pv 0) (T.cls "Client") (T.me "Client" "need_no_work") (ok_Member_need_no_work (P := P) T) (hr.mono (by decide))))
      (pss_cons (ps_if (pt_cmpR op_isN (pe_fd (T.cls "Client") (T.na "Client" "position") (pv 0)) pe_non (nomark _))
        (pss_one (ps_ret (pe_lst pa_nil)))
        pss_nil)
      (pss_cons (pst 2 sc_Listener_receive.nd (pe_lst pa_nil))
      (pss_cons (ps_for PassesOwn.never rfl (pi_enum rfl (T.free "enumerate") (pa_cons (pe_fd (T.cls "Store") (T.na "Store" "queue") (pe_fd (T.cls "Client") (T.na "Client" "store") (pv 0))) pa_nil)) (pg_tup rfl (pgs_cons (pgn 3 sc_Listener_receive.nd) (pgs_cons (pg_tup rfl (pgs_cons (pgn 4 sc_Listener_receive.nd) (pgs_cons (pgn 5 sc_Listener_receive.nd) pgs_nil))) pgs_nil)))
        (pss_one (ps_if (PW.pt (pw_and (pt_cmpR op_ge (pv 3) (pe_fd (T.cls "Client") (T.na "Client" "position") (pv 0)) (nomark _)) (pw_and1 (pt_cmpR op_ge (pv 3) (pe_dget2 (hu_of hr) (pe_fd (T.cls "Client") (T.na "Client" "starts") (pv 0)) (pe_fd (T.cls "Notice") (T.na "Notice" "channel") (pv 5)) (pe_callB call_len_seq (by rfl) (T.free "len") (by decide +kernel) (pa_cons (pe_fd (T.cls "Store") (T.na "Store" "queue") (pe_fd (T.cls "Client") (T.na "Client" "store") (pv 0))) pa_nil)) ⟨by rfl, by rfl, by rfl, by rfl⟩) (nomark _)))))
          (pss_one (ps_expr (pe_bm PySem.F.plainAttrs_list PySem.F.slot_list_append PySem.F.type_list_append mt_append (pv 2) (pa_cons (pv 3) pa_nil))))
          pss_nil)))
      (pss_cons (pst 6 sc_Listener_receive.nd (pe_slice sl_list (pv 2) po_none (po_some (pv 1))))
      (pss_cons (ps_fd (T.cls "Client") (T.na "Client" "position") (pv 0) (pe_ifExp (pt_cmpR op_eq (pe_callB call_len_seq (by rfl) (T.free "len") (by decide +kernel) (pa_cons (pv 6) pa_nil)) (pe_callB call_len_seq (by rfl) (T.free "len") (by decide +kernel) (pa_cons (pv 2) pa_nil)) (nomark _)) (pe_callB call_len_seq (by rfl) (T.free "len") (by decide +kernel) (pa_cons (pe_fd (T.cls "Store") (T.na "Store" "queue") (pe_fd (T.cls "Client") (T.na "Client" "store") (pv 0))) pa_nil)) (pe_op op_add (pe_ix ix_list (pv 6) (pe_un un_neg pe_int) (fun _ _ => rfl)) pe_int)))
      (pss_one (ps_ret (pe_lc (own := [("at", 3)]) rfl sc_Listener_receive.nd (pi_list (pv 6)) (blkN sc_Listener_receive) (fun _ _ _ _ _ => pgn 3 sc_Listener_receive.nd) (fun _ _ _ _ _ => pts_nil) (fun _ _ _ _ _ => pe_ix (ix_listK K rfl) (pe_fd (T.cls "Store") (T.na "Store" "queue") (pe_fd (T.cls "Client") (T.na "Client" "store") (pv 0))) (pv 3) (fun _ _ => rfl)))))))))))), ?_⟩
    have hlen : qs.length = que.length := Paired.length hP
    refine ⟨_, rfl, _, _, _, rfl, true, rfl, ?_⟩
    refine ⟨_, rfl, _, _, _, rfl, hc, rfl, _, _, _, _, _, _, rfl, hc, ?_⟩
    rcases hpo with rfl | ⟨p, s0, rfl, rfl, hsp, hpn⟩
    · exact ⟨_, rfl, _, _, _, _, rfl, hc, rfl, rfl, true, rfl, ll rfl, fun L nL => k _ L (Fr.new nL) nL upd_same (Same.new nL _ _ hc)⟩
    refine ⟨_, rfl, _, _, _, _, rfl, hc, rfl, rfl, false, rfl, ll rfl, fun L nL => ?_⟩
    have sL := Same.new (o := .lst []) nL
    refine ⟨_, rfl, _, _, _, _, rfl, sL _ _ hc, rfl, _, _, _, _, rfl, sL _ _ hS, rfl, _, _, rfl, .of (sL _ _ hQ), ?_⟩
    refine for_it (walk_enum (xs := qs)) (fun i σ H' => ∃ u3 u4 u5 u6, σ = [some (.ref c), some (.int 200), some (.ref L), u3, u4, u5, u6] ∧ Same H H' ∧ H' L = some (.lst (iL p (i - p)))) ?_ ?_ ?_ ?_
    · refine ⟨_, _, _, _, rfl, sL, ?_⟩
      rw [Nat.zero_sub]
      exact upd_same
    · rintro i σ H' _ ⟨_, _, _, _, _, s, _⟩
      exact .of (s _ _ hQ)
    · rintro i x σ H1 _ hi ⟨u3, u4, u5, u6, rfl, s, eL⟩ ⟨T', y, z, rfl, nT, rfl, hy, hz⟩
      cases hy
      have hi2 : i < que.length := by omega
      obtain ⟨v, e1, a, n, dn, rfl, e2, e3⟩ := Paired.at hP (List.getElem?_eq_getElem hi2)
      cases e1.symm.trans hz
      generalize que[i] = en at e2 e3
      have s4 := Same.newT (o := .tup [.int (i : Nat), .ref a]) s nT
      have eL4 := Same.new (o := .tup [.int (i : Nat), .ref a]) nT _ _ eL
      refine ⟨_, _, rfl, .of upd_same, rfl, _, _, rfl, _, _, rfl, ⟨_, _, rfl, .of (s4 _ _ e2), rfl, _, _, rfl, _, _, rfl, rfl, rfl, ?_⟩⟩
      refine ⟨_, rfl, _, rfl, _, _, _, _, rfl, s4 _ _ hc, rfl, _, _, rfl, rfl, _, rfl, ?_⟩
      by_cases hpi : p ≤ i
      · rw [decide_eq_true (by omega)]
        refine ⟨_, rfl, _, rfl, _, _, _, _, rfl, s4 _ _ hc, rfl, st, rfl, .inl ⟨_, .inl (s4 _ _ hst)⟩, _, rfl, _, _, _, _, rfl, s4 _ _ e3, rfl, _, rfl, _, _, _, _, rfl, s4 _ _ hc, rfl, _, _, _, _, rfl, s4 _ _ hS, rfl, _, _, rfl, .inl (.of (s4 _ _ hQ)), _, DGet.k (k := kA) (s4 _ _ hst), ?_⟩
        rw [valS]
        refine ⟨_, _, rfl, rfl, true, congrArg V.bl (decide_eq_true (by omega)), ?_⟩
        refine ⟨_, rfl, .inl ⟨rfl, _, .of eL4⟩, _, rfl, _, _, _, rfl, rfl, eL4, ?_, ?_⟩
        · rw [line_eq, iL, List.length_map, List.length_range']
          omega
        · refine ⟨_, _, _, _, rfl, Same.wr s4 nL, ?_⟩
          rw [upd_same, iL_step hpi]
      · rw [decide_eq_false (by omega)]
        refine ⟨_, _, _, _, rfl, s4, ?_⟩
        rw [iL_zero (by omega)]
        exact eL4
    · rintro σ H1 ⟨u3, u4, u5, u6, rfl, s, eL⟩
      have hll : (iL p (qs.length - p)).length = qs.length - p := by rw [iL, List.length_map, List.length_range']
      refine ⟨_, rfl, _, rfl, _, rfl, _, _, rfl, .of eL, fun M nM => ?_⟩
      have ecut : cutV (iL p (qs.length - p)) none (some 200) = iL p (qs.length - p) := by
        unfold cutV
        rw [show HT.sIx (iL p (qs.length - p)).length (iL p (qs.length - p)).length (some 200) = min 200 (iL p (qs.length - p)).length from HT.sIx_nat _ _ 200, show HT.sIx (iL p (qs.length - p)).length 0 none = 0 from rfl, List.drop_zero, Nat.sub_zero]
        exact List.take_of_length_le (by omega)
      rw [ecut]
      have sM := Same.new (o := .lst (iL p (qs.length - p))) nM
      have s5 := s.trans sM
      refine ⟨_, rfl, _, _, rfl, .inl (.of upd_same), _, rfl, _, _, rfl, .inl (.of (sM _ _ eL)), rfl, true, congrArg V.bl (iT rfl), ?_⟩
      refine ⟨_, rfl, _, _, _, _, rfl, s5 _ _ hc, rfl, _, _, _, _, rfl, s5 _ _ hS, rfl, _, _, rfl, .inl (.of (s5 _ _ hQ)), _, rfl, c, dc, _, _, rfl, s5 _ _ hc, rfl, lt_b rfl, ?_⟩
      have nMc : M ≠ c := Ne.symm (ne_of_none (s _ _ hc) nM)
      have nSc : S ≠ c := ne_of hS hc fun z => by injection z with _ _ h; cases h
      have nQc : QL ≠ c := ne_of hQ hc fun z => nomatch z
      have hM0 : H M = none := none_of s nM
      generalize e6 : upd (upd H1 M (.lst (iL p (qs.length - p)))) c _ = H6
      have f6 : Fr [c] H H6 := by
        rw [← e6]
        exact (Fr.same s5).trans (Fr.upd (.head _))
      have c6 : H6 c = some (ClO K dc S nm .non st (pV (some que.length))) := by
        rw [← e6, upd_same, hlen]
        rfl
      have m6 : H6 M = some (.lst (iL p (qs.length - p))) := by
        rw [← e6, upd_ne nMc, upd_same]
      refine ⟨_, rfl, M, rfl, ⟨_, .of m6⟩, fun A hA => lc_it (walk_list (xs := iL p (qs.length - p))) (LcI H6 A (List.range' p (qs.length - p)) (fun j => [qs.getD j .non])) (LcI.zero hA) (fun _ _ _ q => .of (q.s _ _ m6)) ?_ ?_⟩
      · rintro i x H7 H8 hi q ⟨rfl, hx⟩
        obtain ⟨j, hj, rfl⟩ := get_map hx
        have hjn : j < qs.length := by
          have := List.mem_range'_1.mp (List.mem_of_getElem? hj)
          omega
        refine ⟨rfl, _, rfl, _, _, _, _, rfl, q.s _ _ c6, rfl, _, _, _, _, rfl, q.s _ _ (f6 _ _ hS (by simpa using nSc)), rfl, _, rfl, _, _, _, qs.getD j .non, rfl, rfl, .of (q.s _ _ (f6 _ _ hQ (by simpa using nQc))), atI_nat ?_, ?_⟩
        · rw [List.getD_eq_getElem?_getD, List.getElem?_eq_getElem hjn]
          rfl
        · exact q.push hA hj (fun _ _ e => e) rfl (flat_lt (fun _ => Nat.le_refl _) (by rw [List.length_range', line_eq]; omega))
      · intro H7 q
        have q2 : LcI H6 A (List.range' p (qs.length - p)) (fun j => [qs.getD j .non]) (List.range' p (qs.length - p)).length H7 := by
          rw [hll] at q
          rw [List.length_range']
          exact q
        have eA := q2.all
        rw [drop_iL] at eA
        have nA : H A = none := by
          cases e : H A with
          | none => rfl
          | some o =>
            by_cases hAc : A = c
            · rw [hAc, c6] at hA
              cases hA
            · have := f6 _ _ e (by simpa using hAc)
              rw [hA] at this
              cases this
        exact k _ A (f6.trans (Fr.same q.s)) nA eA (q.s _ _ c6)
    
end
end CN
end
section
set_option Elab.async false
set_option linter.all false
set_option maxRecDepth 100000
set_option maxHeartbeats 4000000
/-! sorted(d.items()) of a dict of at most one key -/
namespace CN
open PySem PySem.Spec PyProof.Rows L2 L2.DX
section
variable {X : Cx}
def rItemsK : V → List V → Hp → VK → Prop := fun x xs H Q => ∃ (a : Addr) (kvs : List (L2.Key × V)), x = .ref a ∧ xs = [] ∧ H a = some (.dK kvs) ∧ ∀ p, H p = none → Q (.ref p) (upd H p (itemsO p a))
theorem mt_itemsK : MtR X "dict.items" rItemsK := by
  intro pins s σ H x xs v us Q I rx rxs h
  obtain ⟨a, kvs, rfl, rfl, ha, q⟩ := h
  cases rx
  cases rxs
  obtain ⟨z, hd, xs', rel, o, es, ep, ho, hx, hdat, _⟩ := dk_of I.hok ha
  refine DT.callItems (es := es) (ep := ep) hd ⟨o, ho, hx, hdat⟩ ?_
  have hf : H s.heap.objs.size = none := I.hok.fresh (Nat.le_refl _)
  exact ⟨.ref s.heap.objs.size, upd H s.heap.objs.size (itemsO s.heap.objs.size a), I.laid (t' := s.toks) (fun b u e => Heap.get?_push_of_some _ e) (Nat.le_refl _) (itemsO_ok (Heap.get?_push_size _ rfl)), rfl, q _ hf⟩
theorem pairs_one {P : Program} {w : World} {es : List DictEntry} {e : L2.Key × V} {vs : List (L2.Key × Value)} (rel : KV [e] vs) (h : Pairs (mixKind P w) es vs) : ∃ d : DictEntry, es = [d] ∧ RelV (kV e.1) d.key ∧ RelV e.2 d.val := by
  cases rel with
  | cons r t =>
    cases t
    cases h with
    | cons h1 h2 h3 =>
      cases h3
      refine ⟨_, rfl, ?_, ?_⟩
      · rw [r.1]
        exact keyIs_rel h1
      · rw [h2]
        exact r.2
/-- at most one key -/
def rSortIt : List V → Hp → VK → Prop := fun vs H Q => ∃ (p a : Addr) (kvs : List (L2.Key × V)), vs = [.ref p] ∧ H p = some (itemsO p a) ∧ H a = some (.dK kvs) ∧ kvs.length ≤ 1 ∧
  ∀ (H' : Hp) (l : Addr) (ps : List Addr), (∀ b o, H b = some o → H' b = some o) → H' l = some (.lst (ps.map V.ref)) → ps.length = kvs.length → Q (.ref l) H'
theorem cr_sortIt (hc : X.calm = true) : CallR X (.builtin "sorted") rSortIt := by
  intro pins s σ H xs us Q I r h
  obtain ⟨p, a, kvs, rfl, hp, ha, h1, q⟩ := h
  obtain rfl := Vals.ref1 r
  have view : s.heap.IsItemsView p a := (show ObjOk X.prog X.w H s.heap p (itemsO p a) from I.hok p _ hp).1
  obtain ⟨z, hd, xs', rel, o, es, ep, ho, hx, hdat, _, prs, _⟩ := dk_of I.hok ha
  have l1 : kvs.length = xs'.length := Paired.length rel
  have l2 : es.size = xs'.length := by
    have := prs.length
    rw [Array.length_toList] at this
    exact this
  have hh : X.A.handled = none := I.ok.hd hc
  refine DT.sortedI (es := es) (ep := ep) hh view ⟨o, ho, hx, hdat⟩ (by rw [sizeLine_eq]; omega) fun h' tk as hk hlt hl hG => ?_
  have hob : (h'.push { cls := .type "list", data := .seq (as.map Value.ref).toArray }).get? h'.objs.size = some (seqObj "list" (as.map Value.ref).toArray 0) := Heap.get?_push_size _ rfl
  have kb : ∀ b o, s.heap.get? b = some o → (h'.push { cls := .type "list", data := .seq (as.map Value.ref).toArray }).get? b = some o := fun b o e => Heap.get?_push_of_some _ (hk b o e)
  generalize hh2 : h'.push { cls := .type "list", data := .seq (as.map Value.ref).toArray } = h2 at hob kb ⊢
  refine wpAny_call_entry PyProof.Rows.slot_list_sort ⟨_, hob, rfl⟩ PyProof.Rows.entry_list_sort
    (SK.plain_sort (s := { s with heap := h2, toks := tk }) (r := fun _ => 0) hob (by rw [List.length_map]; omega) (fun h2' Qk hQk => ?_) fun ps out o1 o2 o3 => ⟨.none, rfl, ?_⟩) (PyProof.Rows.args_list_sort _)
  · rw [List.length_map] at h2'
    omega
  · show EP X pins σ Q (.ref h'.objs.size) { s with heap := sortedHeap h2 h'.objs.size (as.map Value.ref) out, toks := tk }
    have ne0 : ∀ b o, h'.get? b = some o → b ≠ h'.objs.size := fun b o e => Nat.ne_of_lt (Heap.lt_size e)
    have kF : ∀ b o, b ≠ h'.objs.size → h2.get? b = some o → (sortedHeap h2 h'.objs.size (as.map Value.ref) out).get? b = some o := fun b o hb e => (PyProof.Rows.sortedHeap_old hb (Heap.lt_size e)).trans e
    have kS : ∀ b o, s.heap.get? b = some o → (sortedHeap h2 h'.objs.size (as.map Value.ref) out).get? b = some o := fun b o e => kF b o (ne0 _ _ (hk b o e)) (kb b o e)
    obtain ⟨eF, heF⟩ := PyProof.Rows.sortedHeap_at (vs := as.map Value.ref) (out := out) hob
    have I1 : Inv X pins σ H { s with heap := sortedHeap h2 h'.objs.size (as.map Value.ref) out, toks := tk } := I.kept (t' := tk) kS
    have hn0 : H h'.objs.size = none := I.hok.fresh (Nat.le_of_lt hlt)
    have hout : out.toList = as.map Value.ref := by
      rw [o1]
      have e := o2
      have lz : ((as.map Value.ref).zip (as.map Value.ref)).length ≤ 1 := by
        rw [List.length_zip, List.length_map]
        omega
      have e2 : ps = (as.map Value.ref).zip (as.map Value.ref) := by
        rcases hzz : (as.map Value.ref).zip (as.map Value.ref) with _ | ⟨x, _ | ⟨y, t⟩⟩
        · rw [hzz] at e
          exact e.eq_nil
        · rw [hzz] at e
          exact List.perm_singleton.mp e
        · rw [hzz] at lz
          simp at lz
      rw [e2]
      exact List.map_snd_zip (Nat.le_refl _)
    have rv : Vals (as.map V.ref) out.toList := by
      rw [hout]
      exact vals_maps (fun z : Addr => V.ref z) (fun z => Value.ref z) as fun _ _ => rfl
    have I2 : Inv X pins σ (upd H h'.objs.size (.lst (as.map V.ref))) { s with heap := sortedHeap h2 h'.objs.size (as.map Value.ref) out, toks := tk } :=
      I1.take (h' := sortedHeap h2 h'.objs.size (as.map Value.ref) out) (t' := tk) (fun b ob _ e => e) (I.fpOk (Nat.le_of_lt hlt) hn0) ⟨by rw [List.length_map, sizeLine_eq]; omega, out.toList, eF, rv, heF⟩
    exact ⟨.ref h'.objs.size, _, I2, rfl, q _ h'.objs.size as (fun b o e => by rw [upd_ne (ne_of_none e hn0)]; exact e) upd_same (by omega)⟩
end
end CN
end
section
set_option Elab.async false
set_option linter.all false
set_option maxRecDepth 100000
set_option maxHeartbeats 4000000
namespace CN
open PySem PySem.Spec PyProof.Rows L2
local macro_rules | `(tactic| trivial) => `(tactic| exact Led.get (by assumption) 9)
local macro_rules | `(tactic| trivial) => `(tactic| exact Led.get (by assumption) 8)
local macro_rules | `(tactic| trivial) => `(tactic| exact Led.get (by assumption) 7)
local macro_rules | `(tactic| trivial) => `(tactic| exact Led.get (by assumption) 6)
local macro_rules | `(tactic| trivial) => `(tactic| exact Led.get (by assumption) 5)
local macro_rules | `(tactic| trivial) => `(tactic| exact Led.get (by assumption) 4)
local macro_rules | `(tactic| trivial) => `(tactic| exact Led.get (by assumption) 3)
local macro_rules | `(tactic| trivial) => `(tactic| exact Led.get (by assumption) 2)
local macro_rules | `(tactic| trivial) => `(tactic| exact Led.get (by assumption) 1)
local macro_rules | `(tactic| trivial) => `(tactic| exact Led.get (by assumption) 0)
section
variable {P : Program} {w : World} {K : PySem.W.Frag} {mg : Str → Option Value} {base : Heap} [POk P]
/-! ### the store -/
def CelT (H : Hp) (DC t : Addr) (w : Str) (n : Nat) : Prop := H DC = some (.dK [(kA, .ref t)]) ∧ H t = some (.tup [.str w, .int (n : Int)])
def sp_Store_present (K : PySem.W.Frag) : Sp := fun vs H Q E => ∃ S ds r DC DM PL QL t w n, vs = [.ref S, .str "a"] ∧ H S = some (StO K ds r DC DM PL QL) ∧ CelT H DC t w n ∧ Q (.str w) H
theorem sc_Store_present : FnScope ["self", "cell"] ["self", "cell"] (defScope s_Store_present) := ⟨rfl, rfl, rfl, by decide +kernel, rfl, by decide +kernel, by decide +kernel⟩
theorem ok_Store_present (T : TX w K mg) : FnR P w K mg base CX0 1 (a_Store_present K) (sp_Store_present K) := by
  obtain ⟨fd, F⟩ := T.fn 65 rfl rfl
  refine fR F sc_Store_present (fun _ _ _ _ _ _ us hl => match us, hl with | [_, _], _ => rfl) (fun vs H Q E h => ?_) (fun cdv A outer s H vs Q E hr h => ?_)
  · obtain ⟨S, ds, r, DC, DM, PL, QL, t, w, n, rfl, hS, ⟨hD, ht⟩, k⟩ := h
    rfl
  · obtain ⟨S, ds, r, DC, DM, PL, QL, t, w, n, rfl, hS, ⟨hD, ht⟩, k⟩ := h
    refine ⟨_, (pss_cons (ps_if (PW.pt (pw_or (pt_not (pt_val (pe_callB call_isi (by rfl) (T.free "isinstance") (by decide +kernel) (pa_cons (pv 1) (pa_cons (pe_bltn (v := .ty "str") (by rfl) (T.free "str") (by decide +kernel) rfl) pa_nil))))) (pw_or1 (pt_cmp (pc_dnotin (hu_of hr) (pv 1) (pe_fd (T.cls "Store") (T.na "Store" "cells") (pv 0)))))))
        (pss_one ps_never)
        pss_nil)
      (pss_one (ps_ret (pe_ix ix_tup (pe_dget (hu_of hr) (pe_fd (T.cls "Store") (T.na "Store" "cells") (pv 0)) (pv 1) (fun _ _ => rfl)) pe_int (fun _ _ => rfl))))), ?_⟩
    refine ⟨_, rfl, _, _, _, _, true, rfl, .ty "str", .base (.str _), kit_same _, true, rfl, _, rfl, _, rfl, _, _, _, _, rfl, hS, rfl, DC, _, rfl, DGet.k (k := kA) hD, _, rfl, ?_⟩
    refine ⟨_, rfl, _, _, _, _, rfl, hS, rfl, _, rfl, DC, _, rfl, DGet.k (k := kA) hD, ?_⟩
    exact ⟨_, _, _, _, rfl, rfl, .of ht, rfl, k⟩
def sp_Store_room (K : PySem.W.Frag) : Sp := fun vs H Q E => ∃ S ds r DC DM PL QL, vs = [.ref S] ∧ H S = some (StO K ds r DC DM PL QL) ∧ Q (.int 200) H
theorem sc_Store_room : FnScope ["self"] ["self"] (defScope s_Store_room) := ⟨rfl, rfl, rfl, by decide +kernel, rfl, by decide +kernel, by decide +kernel⟩
theorem ok_Store_room (T : TX w K mg) : FnR P w K mg base CX0 1 (a_Store_room K) (sp_Store_room K) := by
  obtain ⟨fd, F⟩ := T.fn 68 rfl rfl
  refine fR F sc_Store_room (fun _ _ _ _ _ _ us hl => match us, hl with | [_], _ => rfl) (fun vs H Q E h => ?_) (fun cdv A outer s H vs Q E hr h => ?_)
  · obtain ⟨S, ds, r, DC, DM, PL, QL, rfl, hS, k⟩ := h
    rfl
  · obtain ⟨S, ds, r, DC, DM, PL, QL, rfl, hS, k⟩ := h
    refine ⟨_, (pss_one (ps_ret (pe_fd (T.cls "Store") (T.na "Store" "most") (pv 0)))), ?_⟩
    exact ⟨_, rfl, _, _, _, _, rfl, hS, rfl, k⟩
def sp_Listener___init__ (K : PySem.W.Frag) : Sp := fun vs H Q E => ∃ c dc S nm, vs = [.ref c, .ref S, .str nm] ∧ H c = some (.ins (He.ga K "Client") dc []) ∧
  ∀ H' st, Fr [c] H H' → H st = none → st ≠ c → H' st = some (.dK []) → H' c = some (ClO K dc S nm .non st .non) → Q .non H'
theorem sc_Listener___init__ : NdefX.NScope ["self", "store", "name", "__class__"] ["self", "store", "name"] ["__class__"] (defScope s_Listener___init__) := NdefX.nscope_by (by decide +kernel)
theorem ok_Listener___init__ [hP : POk P] (T : TX w K mg) : FnR P w K mg base CX0 3 (a_Listener___init__ K) (sp_Listener___init__ K) := by
  have F := T.fnS 60 (C := "Listener") rfl rfl
  refine fSup F sc_Listener___init__ (fun _ _ _ _ _ _ _ us hl => match us, hl with | [_, _, _], _ => rfl) (fun vs H Q E h => ?_) (fun cc cda A outer s H vs Q E hr hf hcd hcl h => ?_)
  · obtain ⟨c, dc, S, nm, rfl, _⟩ := h
    rfl
  · obtain ⟨c, dc, S, nm, rfl, hc, k⟩ := h
    obtain ⟨fd, oc, od, osl, lk, hpar⟩ := hf
    obtain ⟨ccl, cdd, vs0, ccs, tf, hcode, hvs⟩ := hcd
    obtain ⟨cl, cld, csl, hcell⟩ := hcl
    obtain ⟨b1, b2, b3, b4, b5⟩ := supB (T.c.ex 10)
    have Su : SupE (NdefX.ncx CX0 P w K mg base ["self", "store", "name", "__class__"] (nfS d_Listener___init__.name d_Listener___init__.qual s_Listener___init__ cc cda) (d_Listener___init__.ad K) A outer s H E).nox (He.ga K "Listener") (He.ga K "Client") (a_Member___init__ K) "__init__" ((defArgs s_Listener___init__).args.head!) :=
      ⟨rfl, rfl, T.free "super", ⟨_, fd, oc, od, osl, rfl, lk, by rw [hpar]; rfl⟩, ⟨_, ccl, cdd, vs0, ccs, _, tf, rfl, hcode, hvs, hP.file⟩, ⟨cc, cl, cld, csl, rfl, hcell⟩, hP.top, b1, b2, b3, b4, b5, fn_in T 56 rfl rfl⟩
    refine ⟨_, psa_sup (i := 0) Su (ok_Member___init__ (P := P) T) (hr.mono (by decide)) (pa_cons (pv 1) (pa_cons (pv 2) pa_nil))
      (pss_cons (ps_fd (T.cls "Client") (T.na "Client" "starts") (pv 0) pe_dnewK)
      (pss_one (ps_fd (T.cls "Client") (T.na "Client" "position") (pv 0) pe_non))) rfl rfl rfl rfl, ?_⟩
    refine ⟨c, dc, [], rfl, hc, fun q nq => ⟨_, rfl, _, rfl, upd_same, c, dc, S, nm, rfl, Same.new nq _ _ hc, fun H2 f2 e2 => ?_⟩⟩
    refine fun st n1 => ⟨_, rfl, c, dc, _, _, rfl, Same.new n1 _ _ e2, rfl, lt_b rfl, _, rfl, c, dc, _, _, rfl, upd_same, rfl, lt_b rfl, ?_⟩
    have nc : st ≠ c := Ne.symm (ne_of_none e2 n1)
    have f : Fr [c] H H2 := (Fr.new nq).trans f2
    have n0 : H st = none := by
      cases e : H st with
      | none => rfl
      | some o =>
        have := f _ _ e (by simpa using nc)
        rw [n1] at this
        cases this
    exact k _ st (f.trans ((Fr.new n1).trans ((Fr.upd (.head _)).trans (Fr.upd (.head _))))) n0 nc (by rw [upd_ne nc, upd_ne nc]; exact upd_same) upd_same

end
end CN
end
section
set_option Elab.async false
set_option linter.all false
set_option maxRecDepth 100000
set_option maxHeartbeats 4000000
namespace CN
open PySem PySem.Spec PyProof.Rows L2
local macro_rules | `(tactic| trivial) => `(tactic| exact Led.get (by assumption) 9)
local macro_rules | `(tactic| trivial) => `(tactic| exact Led.get (by assumption) 8)
local macro_rules | `(tactic| trivial) => `(tactic| exact Led.get (by assumption) 7)
local macro_rules | `(tactic| trivial) => `(tactic| exact Led.get (by assumption) 6)
local macro_rules | `(tactic| trivial) => `(tactic| exact Led.get (by assumption) 5)
local macro_rules | `(tactic| trivial) => `(tactic| exact Led.get (by assumption) 4)
local macro_rules | `(tactic| trivial) => `(tactic| exact Led.get (by assumption) 3)
local macro_rules | `(tactic| trivial) => `(tactic| exact Led.get (by assumption) 2)
local macro_rules | `(tactic| trivial) => `(tactic| exact Led.get (by assumption) 1)
local macro_rules | `(tactic| trivial) => `(tactic| exact Led.get (by assumption) 0)
section
variable {P : Program} {w : World} {K : PySem.W.Frag} {mg : Str → Option Value} {base : Heap} [POk P]
def sp_Store_client (K : PySem.W.Frag) : Sp := fun vs H Q E => ∃ S ds r DC DM PL QL nm kvs, vs = [.ref S, .str nm] ∧ H S = some (StO K ds r DC DM PL QL) ∧ H DM = some (.dK kvs) ∧ okN nm = true ∧ valV kvs (.inr nm) = none ∧ kvs.length < 1000 ∧
  ∀ H' c dc st, Fr [DM] H H' → H c = none → H st = none → c ≠ st → H' c = some (ClO K dc S nm .non st .non) → H' st = some (.dK []) → H' DM = some (.dK (putK kvs (.inr nm) (.ref c))) → Q (.ref c) H'
theorem sc_Store_client : FnScope ["self", "name"] ["self", "name"] (defScope s_Store_client) := ⟨rfl, rfl, rfl, by decide +kernel, rfl, by decide +kernel, by decide +kernel⟩
theorem ok_Store_client (T : TX w K mg) : FnR P w K mg base CX0 5 (a_Store_client K) (sp_Store_client K) := by
  obtain ⟨fd, F⟩ := T.fn 66 rfl rfl
  refine fR F sc_Store_client (fun _ _ _ _ _ _ us hl => match us, hl with | [_, _], _ => rfl) (fun vs H Q E h => ?_) (fun cdv A outer s H vs Q E hr h => ?_)
  · obtain ⟨S, ds, r, DC, DM, PL, QL, nm, kvs, rfl, hS, hM, hn, hv, hl, k⟩ := h
    rfl
  · obtain ⟨S, ds, r, DC, DM, PL, QL, nm, kvs, rfl, hS, hM, hn, hv, hl, k⟩ := h
    refine ⟨_, (pss_cons (ps_expr (pe_cf (ok_need_name (P := P) T) (hr.mono (by decide)) (by rfl) (T.gf "need_name") (pa_cons (pv 1) pa_nil)))
      (pss_cons (ps_if (pt_cmp (pc_din (hu_of hr) (pv 1) (pe_fd (T.cls "Store") (T.na "Store" "members") (pv 0))))
        (pss_one ps_never)
        pss_nil)
      (pss_cons (ps_dput (hu_of hr) (pe_fd (T.cls "Store") (T.na "Store" "members") (pv 0)) (pv 1) (pe_mk (T.mkr "Client") (ok_Listener___init__ (P := P) T) (hr.mono (by decide)) (by rfl) (T.ref "Client") (pa_cons (pv 0) (pa_cons (pv 1) pa_nil))) rfl)
      (pss_one (ps_ret (pe_dget (hu_of hr) (pe_fd (T.cls "Store") (T.na "Store" "members") (pv 0)) (pv 1) (fun _ _ => rfl))))))), ?_⟩
    refine ⟨_, rfl, _, rfl, hn, fun H1 s1 => ?_⟩
    refine ⟨_, rfl, _, rfl, _, _, _, _, rfl, s1 _ _ hS, rfl, DM, _, rfl, DGet.k (k := .inr nm) (s1 _ _ hM), ?_⟩
    rw [hv]
    refine ⟨_, rfl, ?_⟩
    refine ⟨_, rfl, _, rfl, fun c dc n1 n2 ne => ?_⟩
    have s2 : Same H1 (upd (upd H1 dc (.own c)) c (.ins (He.ga K "Client") dc [])) := (Same.new n2).trans (Same.new (by rw [upd_ne (Ne.symm ne)]; exact n1))
    refine ⟨c, dc, S, nm, rfl, upd_same, fun H2 st f2 n3 nc e1 e2 => ⟨rfl, ?_⟩⟩
    have sx : Same H1 H2 := (Fr.drop n1 ((Fr.same s2).trans f2)).toSame
    have s3 := s1.trans sx
    have hM2 := s3 _ _ hM
    refine ⟨_, rfl, _, _, _, _, rfl, s3 _ _ hS, rfl, _, rfl, DM, _, rfl, DPut.k (k := .inr nm) hM2 (by rw [line_eq]; omega), ?_⟩
    have mS : S ≠ DM := ne_of hS hM fun z => nomatch z
    have cM : c ≠ DM := Ne.symm (ne_of_none (s1 _ _ hM) n1)
    have stM : st ≠ DM := Ne.symm (ne_of_none (s2 _ _ (s1 _ _ hM)) n3)
    have gk : DGet (upd H2 DM (.dK (putK kvs (.inr nm) (.ref c)))) DM (.str nm) (some (.ref c)) := by
      have g := DGet.k (k := .inr nm) (upd_same (H := H2) (a := DM) (o := .dK (putK kvs (.inr nm) (.ref c))))
      rw [valV_put, if_pos rfl] at g
      exact g
    refine ⟨_, rfl, _, _, _, _, rfl, (upd_ne mS).trans (s3 _ _ hS), rfl, _, rfl, DM, _, rfl, gk, ?_⟩
    refine k _ c dc st ((Fr.same s3).trans (Fr.upd (.head _))) (none_of s1 n1) ?_ (Ne.symm nc) ((upd_ne cM).trans e2) ((upd_ne stM).trans e1) upd_same
    exact none_of s1 (none_of s2 n3)
/-- the store's cells: a text's dict of at most one entry -/
def setL : Option Str → List (Key × V)
  | some z => [(kA, .str z)]
  | none => []
theorem SqTs {K : PySem.W.Frag} {H H' : Hp} {a : Addr} {xs : List V} (s : Same H H') (h : SqT K H a xs) : SqT K H' a xs := by
  rcases h with (h | ⟨o, h⟩) | h
  · exact .inl (.inl (s _ _ h))
  · exact .inl (.inr ⟨o, s _ _ h⟩)
  · exact .inr h
/-- the rows that a commit lays into the queue -/
def QnT (H : Hp) (n : Nat) (v x : V) : Prop := ∃ a, v = .ref a ∧ H a = some (.tup [.int (n : Int), x])
def keptW (H : Hp) (DC t0 : Addr) (n : Nat) : Option Str → Prop
  | none => H DC = some (.dK [(kA, .ref t0)])
  | some z => ∃ t, H DC = some (.dK [(kA, .ref t)]) ∧ H t = some (.tup [.str z, .int (n : Int)])
def sp_Store_keep (K : PySem.W.Frag) : Sp := fun vs H Q E => ∃ S ds r DC DM PL QL nm cc ch bt db br bq ns t0 qs past, vs = [.ref S, .str nm, .ref cc, .ref bt] ∧ H S = some (StO K ds r DC DM PL QL) ∧ H cc = some (.dK (setL ch)) ∧ H DC = some (.dK [(kA, .ref t0)]) ∧ cc ≠ DC ∧ QL ≠ PL ∧ H bt = some (.ins (He.ga K "Batch") db (BatF br bq)) ∧ SqT K H bq ns ∧ ns.length < 1000 ∧
  H QL = some (.lst qs) ∧ H PL = some (.lst past) ∧ qs.length < 1000 ∧ past.length < 1000 ∧
  ∀ H' qn pv, Fr [DC, QL, PL] H H' → keptW H' DC t0 (past.length + 1) ch → H' QL = some (.lst (qs ++ qn)) → Paired (QnT H' (past.length + 1)) qn ns → H' PL = some (.lst (past ++ [pv])) → Q (.int ((past.length + 1 : Nat) : Int)) H'
theorem sc_Store_keep : FnScope ["self", "name", "changes", "batch", "number", "cell", "word", "notice"] ["self", "name", "changes", "batch"] (defScope s_Store_keep) := ⟨rfl, rfl, rfl, by decide +kernel, rfl, by decide +kernel, by decide +kernel⟩
theorem ok_Store_keep (T : TX w K mg) : FnR P w K mg base CX0 1 (a_Store_keep K) (sp_Store_keep K) := by
  obtain ⟨fd, F⟩ := T.fn 67 rfl rfl
  refine fR F sc_Store_keep (fun _ _ _ _ _ _ us hl => match us, hl with | [_, _, _, _], _ => rfl) (fun vs H Q E h => ?_) (fun cdv A outer s H vs Q E hr h => ?_)
  · obtain ⟨S, ds, r, DC, DM, PL, QL, nm, cc, ch, bt, db, br, bq, ns, t0, qs, past, rfl, hS, hc, hD, ncD, nQP, hb, hq, hns, hQ, hP, lq, lp, k⟩ := h
    rfl
  · obtain ⟨S, ds, r, DC, DM, PL, QL, nm, cc, ch, bt, db, br, bq, ns, t0, qs, past, rfl, hS, hc, hD, ncD, nQP, hb, hq, hns, hQ, hP, lq, lp, k⟩ := h
    refine ⟨_, (pss_cons (pst 4 sc_Store_keep.nd (pe_op op_add (pe_callB call_len_seq (by rfl) (T.free "len") (by decide +kernel) (pa_cons (pe_fd (T.cls "Store") (T.na "Store" "past") (pv 0)) pa_nil)) pe_int))
      (pss_cons (ps_lock (ps_for PassesOwn.never rfl (pi_items (pv 2)) (pg_tup rfl (pgs_cons (pgn 5 sc_Store_keep.nd) (pgs_cons (pgn 6 sc_Store_keep.nd) pgs_nil)))
        (pss_one (ps_dput (hu_of hr) (pe_fd (T.cls "Store") (T.na "Store" "cells") (pv 0)) (pv 5) (pe_tup (pa_cons (pv 6) (pa_cons (pv 4) pa_nil))) rfl))))
      (pss_cons (ps_expr (pe_bm PySem.F.plainAttrs_list PySem.F.slot_list_extend PySem.F.type_list_extend mt_extend (pe_fd (T.cls "Store") (T.na "Store" "queue") (pv 0)) (pa_cons (pe_lc (own := [("notice", 7)]) rfl sc_Store_keep.nd (pi_tup (pe_fd (T.cls "Batch") (T.na "Batch" "notices") (pv 3))) (blkN sc_Store_keep) (fun _ _ _ _ _ => pgn 7 sc_Store_keep.nd) (fun _ _ _ _ _ => pts_nil) (fun _ _ _ _ _ => pe_tup (pa_cons (pv 4) (pa_cons (pv 7) pa_nil)))) pa_nil)))
      (pss_cons (ps_expr (pe_bm PySem.F.plainAttrs_list PySem.F.slot_list_append PySem.F.type_list_append mt_append (pe_fd (T.cls "Store") (T.na "Store" "past") (pv 0)) (pa_cons (pe_tup (pa_cons (pv 4) (pa_cons (pv 1) (pa_cons (pe_callTy call_tuple_of (by rfl) (T.free "tuple") (by decide +kernel) (pa_cons (pe_callB (cr_sortIt rfl) (by rfl) (T.free "sorted") (by decide +kernel) (pa_cons (pe_bm0 PySem.F.plainAttrs_dict PySem.F.slot_dict_items PySem.F.type_dict_items mt_itemsK (pv 2)) pa_nil)) pa_nil)) (pa_cons (pv 3) pa_nil))))) pa_nil)))
      (pss_one (ps_ret (pv 4))))))), ?_⟩
    refine ⟨_, rfl, _, _, _, _, rfl, hS, rfl, _, _, rfl, .inl (.of hP), _, _, rfl, rfl, ?_⟩
    have mS : S ≠ DC := ne_of hS hD fun z => nomatch z
    have mSc : S ≠ cc := ne_of hS hc fun z => nomatch z
    refine ⟨cc, _, hc, True.intro, fun od => ?_⟩
    refine ⟨_, rfl, cc, od, _, rfl, upd_same, for_it walk_items (fun i σ H' => (∃ u5 u6 u7, σ = [some (.ref S), some (.str nm), some (.ref cc), some (.ref bt), some (.int ((past.length : Int) + 1)), u5, u6, u7]) ∧ Fr [DC] (upd H cc (.frz od (.dK (setL ch)))) H' ∧
      (i = 0 → H' DC = some (.dK [(kA, .ref t0)])) ∧ (0 < i → ∃ z t, ch = some z ∧ H' DC = some (.dK [(kA, .ref t)]) ∧ H' t = some (.tup [.str z, .int ((past.length : Int) + 1)]))) ?_ ?_ ?_ ?_⟩
    · refine ⟨⟨_, _, _, rfl⟩, fun _ _ e _ => e, fun _ => (upd_ne (Ne.symm ncD)).trans hD, fun h => absurd h (by decide)⟩
    · rintro i σ H' _ ⟨_, f, _⟩
      exact f _ _ upd_same (by simpa using ncD)
    · rintro i x σ H1 _ hi ⟨⟨u5, u6, u7, rfl⟩, f, e0, _⟩ ⟨T', y, z, rfl, nT, rfl, hy, hz⟩
      obtain ⟨w, rfl⟩ : ∃ w, ch = some w := by
        cases ch with
        | none => exact absurd hi (Nat.not_lt_zero _)
        | some n => exact ⟨n, rfl⟩
      have hi0 : i = 0 := by
        have : i < 1 := hi
        omega
      subst hi0
      cases hy
      cases hz
      have e0 := e0 rfl
      refine ⟨_, _, rfl, .of upd_same, rfl, _, _, rfl, _, _, rfl, rfl, ?_⟩
      refine ⟨_, rfl, _, rfl, ll rfl, fun T nT2 => ?_⟩
      have sT : Same H1 (upd (upd H1 T' (.tup [.str "a", .str w])) T (.tup [.str w, .int ((past.length : Int) + 1)])) := (Same.new nT).trans (Same.new nT2)
      have eT := upd_same (H := upd H1 T' (.tup [.str "a", .str w])) (a := T) (o := .tup [.str w, .int ((past.length : Int) + 1)])
      have nT0 : H1 T = none := none_of (Same.new nT) nT2
      generalize hH2 : upd (upd H1 T' (.tup [.str "a", .str w])) T (.tup [.str w, .int ((past.length : Int) + 1)]) = H2 at sT eT
      have hS1 : H1 S = some (StO K ds r DC DM PL QL) := f _ _ ((upd_ne mSc).trans hS) (by simpa using mS)
      have g : (fun kv : Key × V => kV kv.fst) (kA, V.str w) = .str "a" := rfl
      have hS2 : upd (upd H1 T' (.tup [.str "a", .str w])) T (.tup [.str w, .int ((past.length : Int) + 1)]) S = some (StO K ds r DC DM PL QL) := by
        rw [hH2]
        exact sT _ _ hS1
      have hD2 : upd (upd H1 T' (.tup [.str "a", .str w])) T (.tup [.str w, .int ((past.length : Int) + 1)]) DC = some (.dK [(kA, .ref t0)]) := by
        rw [hH2]
        exact sT _ _ e0
      refine ⟨_, rfl, _, _, _, _, rfl, hS2, rfl, _, rfl, DC, _, rfl, DPut.k (k := kA) hD2 (lt_b rfl), ?_⟩
      · show _ ∧ Fr [DC] _ (upd (upd (upd H1 T' (.tup [.str "a", .str w])) T (.tup [.str w, .int ((past.length : Int) + 1)])) DC _) ∧ _
        rw [hH2]
        have nTD : T ≠ DC := Ne.symm (ne_of_none e0 nT0)
        exact ⟨⟨_, _, _, rfl⟩, f.trans ((Fr.same sT).trans (Fr.upd (.head _))), fun h => absurd h (by decide), fun _ => ⟨w, T, rfl, upd_same, (upd_ne nTD).trans ((congrFun hH2 T).trans eT)⟩⟩
    · rintro σ H1 ⟨⟨u5, u6, u7, rfl⟩, f, e0, e1⟩
      have c1 : H1 cc = some (.frz od (.dK (setL ch))) := f _ _ upd_same (by simpa using ncD)
      have f2 : Fr [DC] H (upd H1 cc (.dK (setL ch))) := fun b o e hb => by
        by_cases hbc : b = cc
        · rw [hbc, hc] at e
          cases e
          rw [hbc, upd_same]
        · rw [upd_ne hbc]
          exact f b o (by rw [upd_ne hbc]; exact e) hb
      have e2 : keptW (upd H1 cc (.dK (setL ch))) DC t0 (past.length + 1) ch := by
        cases ch with
        | none => exact (upd_ne (Ne.symm ncD)).trans (e0 rfl)
        | some w =>
          obtain ⟨z, t, ez, h1, h2⟩ := e1 (by show 0 < 1; decide)
          cases ez
          refine ⟨t, (upd_ne (Ne.symm ncD)).trans h1, ?_⟩
          rw [upd_ne (ne_of h2 c1 fun z => nomatch z)]
          exact h2
      refine ⟨c1, ?_⟩
      generalize upd H1 cc (.dK (setL ch)) = H2 at f2 e2
      have nSD := mS
      have nQD : QL ≠ DC := ne_of hQ hD fun z => nomatch z
      have nPD : PL ≠ DC := ne_of hP hD fun z => nomatch z
      have nbD : bt ≠ DC := ne_of hb hD fun z => nomatch z
      have hq2 : SqT K H2 bq ns := by
        rcases hq with (h | ⟨o, h⟩) | h
        · exact .inl (.inl (f2 _ _ h (by simpa using ne_of h hD fun z => nomatch z)))
        · exact .inl (.inr ⟨o, f2 _ _ h (by simpa using ne_of h hD fun z => nomatch z)⟩)
        · exact .inr h
      have hS2 := f2 _ _ hS (by simpa using mS)
      have hQ2 := f2 _ _ hQ (by simpa using nQD)
      have hP2 := f2 _ _ hP (by simpa using nPD)
      have hb2 := f2 _ _ hb (by simpa using nbD)
      have hc2 := f2 _ _ hc (by simpa using ncD)
      refine ⟨_, rfl, _, _, _, _, rfl, hS2, rfl, .inl ⟨rfl, _, .of hQ2⟩, ?_⟩
      refine ⟨_, rfl, _, _, _, _, rfl, hb2, rfl, bq, rfl, ⟨_, hq2⟩, fun A hA => lc_it (walk_tup (xs := ns)) (fun i H' => Same H2 H' ∧ ∃ acc, H' A = some (.lst acc) ∧ Paired (QnT H' (past.length + 1)) acc (ns.take i)) ?_ ?_ ?_ ?_⟩
      · exact ⟨Same.new hA, [], upd_same, by rw [List.take_zero]; exact .nil⟩
      · rintro i H' _ ⟨s, _⟩
        exact SqTs s hq2
      · rintro i x _ H5 hi ⟨s, acc, eA, pA⟩ ⟨rfl, hx⟩
        refine ⟨rfl, _, rfl, _, rfl, ll rfl, fun T nT => ?_⟩
        have hl5 : acc.length = (ns.take i).length := Paired.length pA
        have hl6 : (ns.take i).length ≤ i := by rw [List.length_take]; omega
        have nTA : A ≠ T := ne_of_none eA nT
        refine ⟨acc, Same.new nT _ _ eA, by rw [line_eq]; omega, ?_, _, upd_same, ?_⟩
        · exact fun b o e => by
            rw [upd_ne (ne_of_none e hA)]
            exact Same.new nT _ _ (s _ _ e)
        · rw [take_at hx]
          refine Paired.snoc (Paired.mapP pA fun v x ⟨a, e1, e2⟩ => ⟨a, e1, ?_⟩) ⟨T, rfl, ?_⟩
          · rw [upd_ne (ne_of e2 eA fun z => nomatch z)]
            exact Same.new nT _ _ e2
          · rw [upd_ne (Ne.symm nTA)]
            exact upd_same
      · rintro H3 ⟨s3, acc, eA, pA⟩
        rw [List.take_length] at pA
        have ll1 : acc.length = ns.length := Paired.length pA
        have nAQ : A ≠ QL := Ne.symm (ne_of_none hQ2 hA)
        refine ⟨QL, A, _, _, rfl, rfl, s3 _ _ hQ2, eA, by rw [line_eq]; omega, ?_⟩
        have f4 : Fr [QL] H2 (upd H3 QL (.lst (qs ++ acc))) := (Fr.same s3).trans (Fr.upd (.head _))
        have p4 : Paired (QnT (upd H3 QL (.lst (qs ++ acc))) (past.length + 1)) acc ns := Paired.mapP pA fun v x ⟨a, e1, e2⟩ => ⟨a, e1, (upd_ne (ne_of e2 (s3 _ _ hQ2) fun z => nomatch z)).trans e2⟩
        have q4 : upd H3 QL (.lst (qs ++ acc)) QL = some (.lst (qs ++ acc)) := upd_same
        generalize upd H3 QL (.lst (qs ++ acc)) = H4 at f4 p4 q4 ⊢
        have hS4 := f4 _ _ hS2 (by simpa using ne_of hS hQ fun z => nomatch z)
        have hP4 := f4 _ _ hP2 (by simpa using Ne.symm nQP)
        have hc4 := f4 _ _ hc2 (by simpa using ne_of hc hQ fun z => nomatch z)
        refine ⟨_, rfl, _, _, _, _, rfl, hS4, rfl, .inl ⟨rfl, _, .of hP4⟩, ?_⟩
        refine ⟨_, rfl, _, rfl, _, rfl, ?_⟩
        refine ⟨.inr (.inr (.inl ⟨rfl, .inl ⟨_, hc4⟩⟩)), cc, _, rfl, rfl, hc4, fun pv np => ?_⟩
        refine ⟨pv, cc, _, rfl, upd_same, Same.new np _ _ hc4, by cases ch with | none => exact Nat.zero_le _ | some _ => exact Nat.le_refl _, fun H5 l ps s5 el hlen => ?_⟩
        refine ⟨l, _, rfl, .inl ⟨.of el, fun l2 n2 => ?_⟩⟩
        refine ⟨_, rfl, ll rfl, fun T nT => ?_⟩
        have s6 : Same H4 (upd (upd H5 l2 (.tup (ps.map V.ref))) T (.tup [.int ((past.length : Int) + 1), .str nm, .ref l2, .ref bt])) := ((Same.new np).trans s5).trans ((Same.new n2).trans (Same.new nT))
        refine ⟨PL, _, _, rfl, rfl, s6 _ _ hP4, by rw [line_eq]; omega, ?_⟩
        have f6 : Fr [PL] H4 (upd (upd (upd H5 l2 (.tup (ps.map V.ref))) T (.tup [.int ((past.length : Int) + 1), .str nm, .ref l2, .ref bt])) PL (.lst (past ++ [.ref T]))) := (Fr.same s6).trans (Fr.upd (.head _))
        have e6 : upd (upd (upd H5 l2 (.tup (ps.map V.ref))) T (.tup [.int ((past.length : Int) + 1), .str nm, .ref l2, .ref bt])) PL (.lst (past ++ [.ref T])) PL = some (.lst (past ++ [.ref T])) := upd_same
        refine ⟨_, rfl, ?_⟩
        show Q (.int ((past.length : Int) + 1)) (upd (upd (upd H5 l2 (.tup (ps.map V.ref))) T (.tup [.int ((past.length : Int) + 1), .str nm, .ref l2, .ref bt])) PL (.lst (past ++ [.ref T])))
        generalize upd (upd (upd H5 l2 (.tup (ps.map V.ref))) T (.tup [.int ((past.length : Int) + 1), .str nm, .ref l2, .ref bt])) PL (.lst (past ++ [.ref T])) = H6 at f6 e6
        refine k H6 acc (.ref T) ?_ ?_ (f6 _ _ q4 (by simpa using nQP)) (Paired.mapP p4 fun v x ⟨a, e1, e2⟩ => ⟨a, e1, f6 _ _ e2 (by simpa using ne_of e2 hP4 fun z => nomatch z)⟩) e6
        · exact (f2.mono (by simp)).trans ((f4.mono (by simp)).trans (f6.mono (by simp)))
        · have f46 : Fr [QL, PL] H2 H6 := (f4.mono (by simp)).trans (f6.mono (by simp))
          cases ch with
          | none => exact f46 _ _ e2 (by simp [Ne.symm nQD, Ne.symm nPD])
          | some z =>
            obtain ⟨t, h1, h2⟩ := e2
            exact ⟨t, f46 _ _ h1 (by simp [Ne.symm nQD, Ne.symm nPD]), f46 _ _ h2 (by simp [ne_of h2 hQ2 (fun z => nomatch z), ne_of h2 hP2 (fun z => nomatch z)])⟩
    
end
end CN
end
section
set_option Elab.async false
set_option linter.all false
set_option maxRecDepth 100000
set_option maxHeartbeats 4000000
namespace CN
open PySem PySem.Spec PyProof.Rows L2
local macro_rules | `(tactic| trivial) => `(tactic| exact Led.get (by assumption) 9)
local macro_rules | `(tactic| trivial) => `(tactic| exact Led.get (by assumption) 8)
local macro_rules | `(tactic| trivial) => `(tactic| exact Led.get (by assumption) 7)
local macro_rules | `(tactic| trivial) => `(tactic| exact Led.get (by assumption) 6)
local macro_rules | `(tactic| trivial) => `(tactic| exact Led.get (by assumption) 5)
local macro_rules | `(tactic| trivial) => `(tactic| exact Led.get (by assumption) 4)
local macro_rules | `(tactic| trivial) => `(tactic| exact Led.get (by assumption) 3)
local macro_rules | `(tactic| trivial) => `(tactic| exact Led.get (by assumption) 2)
local macro_rules | `(tactic| trivial) => `(tactic| exact Led.get (by assumption) 1)
local macro_rules | `(tactic| trivial) => `(tactic| exact Led.get (by assumption) 0)
section
variable {P : Program} {w : World} {K : PySem.W.Frag} {mg : Str → Option Value} {base : Heap} [POk P]
/-- a member of the store: name, client, position -/
def MemT (K : PySem.W.Frag) (H : Hp) (S : Addr) (m : Str × Addr × Option Nat) : Prop := ∃ dm wk st, H m.2.1 = some (ClO K dm S m.1 wk st (pV m.2.2))
def memK (m : Str × Addr × Option Nat) : Key × V := (.inr m.1, .ref m.2.1)
def outPos (nm : Str) (m : Str × Addr × Option Nat) : List V := if m.1 = nm then [] else [pV m.2.2]
def outNum (o : Option Nat) : List V := match o with
  | none => []
  | some n => [.int (n : Int)]
def ksL : Option Str → List Str
  | some _ => ["a"]
  | none => []
theorem ksL_le (ch : Option Str) : (ksL ch).length ≤ 1 := by
  cases ch with
  | none => exact Nat.zero_le _
  | some _ => exact Nat.le_refl _
theorem ksL_lt (ch : Option Str) : (ksL ch).length < 64 := Nat.lt_of_le_of_lt (ksL_le ch) (by decide)
theorem perm_le1 {α : Type} {xs ys : List α} (h : xs.Perm ys) (hl : ys.length ≤ 1) : xs = ys := by
  rcases ys with _ | ⟨x, _ | ⟨y, t⟩⟩
  · exact h.eq_nil
  · exact List.perm_singleton.mp h
  · simp at hl
theorem ints_shapedL (l : List Int) : SeqAt.shaped (.list (l.map PyData.int)) = true := ints_shaped l
theorem eqv_nilL (l : List Int) : PyData.eqv (.list (l.map PyData.int)) (.list []) = decide (l = []) := by
  cases l <;> simp [PyData.eqv, PyData.eqvAll]
def oths (nm : Str) (ms : List (Str × Addr × Option Nat)) : List (Option Nat) := ms.flatMap fun m => if m.1 = nm then [] else [m.2.2]
theorem oths_eq (nm : Str) : ∀ ms : List (Str × Addr × Option Nat), ms.flatMap (outPos nm) = (oths nm ms).map pV
  | [] => rfl
  | m :: r => by
    unfold oths
    rw [List.flatMap_cons, List.flatMap_cons, List.map_append, oths_eq nm r]
    unfold outPos oths
    split <;> rfl
def numsO (os : List (Option Nat)) : List Int := os.flatMap fun o => match o with
  | none => []
  | some n => [(n : Int)]
theorem numsO_eq : ∀ os : List (Option Nat), os.flatMap outNum = (numsO os).map V.int
  | [] => rfl
  | o :: r => by
    unfold numsO
    rw [List.flatMap_cons, List.flatMap_cons, List.map_append, numsO_eq r]
    cases o <;> rfl
theorem numsO_pos {os : List (Option Nat)} {m : Int} (h : m ∈ numsO os) : 0 ≤ m := by
  obtain ⟨o, _, h2⟩ := List.mem_flatMap.mp h
  cases o with
  | none => cases h2
  | some n =>
    rw [List.mem_singleton.mp h2]
    omega
theorem oths_len (nm : Str) (ms : List (Str × Addr × Option Nat)) : (oths nm ms).length ≤ ms.length := by
  induction ms with
  | nil => exact Nat.le_refl _
  | cons m r ih =>
    unfold oths at ih ⊢
    rw [List.flatMap_cons, List.length_append, List.length_cons]
    have h : (if m.1 = nm then [] else [m.2.2] : List (Option Nat)).length ≤ 1 := by split <;> simp
    omega
def sp_Transaction_commit (K : PySem.W.Frag) : Sp := fun vs H Q E => ∃ tx dx S c sn bg rw mk dc nm st po sl ds r DC DM PL QL rs rows ch wl t0 w0 n0 ms qs past, vs = [.ref tx] ∧ H tx = some (TxO K dx S c sn ((bg : Nat) : Int) rw mk true) ∧ H c = some (ClO K dc S nm (.ref tx) st (pV po)) ∧ H S = some (StO K ds r DC DM PL QL) ∧ lRULES.contains r = true ∧
  H rw = some (.lst rs) ∧ Paired (RowT H) rs rows ∧ rows.length < 1000 ∧ putAll (rows.flatMap outSet) [] = setL ch ∧ putAll (rows.flatMap outWish) [] = wV wl ∧ (wl = none ∨ wl = some "listen" ∨ wl = some "unlisten") ∧ One K H (rows.flatMap outSay) ∧
  H DC = some (.dK [(kA, .ref t0)]) ∧ H t0 = some (.tup [.str w0, .int ((n0 : Nat) : Int)]) ∧ (ch.isSome = true → n0 ≤ bg) ∧ H DM = some (.dK (List.map memK ms)) ∧ (∀ m ∈ ms, MemT K H S m) ∧ List.length ms ≤ 8 ∧
  H st = some (.dK (sV sl)) ∧ H QL = some (.lst qs) ∧ qs.length ≤ 100 ∧ H PL = some (.lst past) ∧ past.length < 1000 ∧ QL ≠ PL ∧
  ∀ H' st' qn pv, Fr [tx, c, DC, QL, PL] H H' → H st' = none → H' tx = some (TxO K dx S c sn ((bg : Nat) : Int) rw mk false) → H' c = some (ClO K dc S nm .non st' (pV (behS qs.length sl po wl).2)) → H' st' = some (.dK (sV (behS qs.length sl po wl).1)) →
    keptW H' DC t0 (past.length + 1) ch → H' QL = some (.lst (qs ++ qn)) → Paired (QnT H' (past.length + 1)) qn (rows.flatMap outSay) → H' PL = some (.lst (past ++ [pv])) → Q (.int ((past.length + 1 : Nat) : Int)) H'
theorem sc_Transaction_commit : FnScope ["self", "changes", "batch", "cell", "starts", "position", "places", "member", "place", "left"] ["self"] (defScope s_Transaction_commit) := ⟨rfl, rfl, rfl, by decide +kernel, rfl, by decide +kernel, by decide +kernel⟩
theorem ok_Transaction_commit (T : TX w K mg) : FnR P w K mg base CX0 6 (a_Transaction_commit K) (sp_Transaction_commit K) := by
  obtain ⟨fd, F⟩ := T.fn 54 rfl rfl
  refine fR F sc_Transaction_commit (fun _ _ _ _ _ _ us hl => match us, hl with | [_], _ => rfl) (fun vs H Q E h => ?_) (fun cdv A outer s H vs Q E hr h => ?_)
  · obtain ⟨tx, dx, S, c, sn, bg, rw, mk, dc, nm, st, po, sl, ds, r, DC, DM, PL, QL, rs, rows, ch, wl, t0, w0, n0, ms, qs, past, rfl, ht, hc, hS, hru, hw, hr', hlr, ech, ewl, hwl, hone, hD, ht0, hbg, hM, hms, hlm, hst, hQ, hlq, hP, hlp, nQP, k⟩ := h
    rfl
  · obtain ⟨tx, dx, S, c, sn, bg, rw, mk, dc, nm, st, po, sl, ds, r, DC, DM, PL, QL, rs, rows, ch, wl, t0, w0, n0, ms, qs, past, rfl, ht, hc, hS, hru, hw, hr', hlr, ech, ewl, hwl, hone, hD, ht0, hbg, hM, hms, hlm, hst, hQ, hlq, hP, hlp, nQP, k⟩ := h
    refine ⟨_, (pss_cons (ps_expr (pe_me0 (pv 0) (T.cls "Transaction") (T.me "Transaction" "need_open") (ok_Transaction_need_open (P := P) T) (hr.mono (by decide))))
      (pss_cons (pst 1 sc_Transaction_commit.nd (pe_me0 (pv 0) (T.cls "Transaction") (T.me "Transaction" "changes") (ok_Transaction_changes (P := P) T) (hr.mono (by decide))))
      (pss_cons (pst 2 sc_Transaction_commit.nd (pe_me0 (pv 0) (T.cls "Transaction") (T.me "Transaction" "batch") (ok_Transaction_batch (P := P) T) (hr.mono (by decide))))
      (pss_cons (ps_for PassesOwn.never rfl (pi_list (pe_callB (call_sortedD rfl) (by rfl) (T.free "sorted") (by decide +kernel) (pa_cons (pv 1) pa_nil))) (pgn 3 sc_Transaction_commit.nd)
        (pss_one (ps_if (pt_cmpR op_gt (pe_ix ix_tup (pe_dget (hu_of hr) (pe_fd (T.cls "Store") (T.na "Store" "cells") (pe_fd (T.cls "Transaction") (T.na "Transaction" "store") (pv 0))) (pv 3) (fun _ _ => rfl)) pe_int (fun _ _ => rfl)) (pe_fd (T.cls "Transaction") (T.na "Transaction" "began") (pv 0)) (nomark _))
          (pss_one ps_never)
          pss_nil)))
      (pss_cons (ps_asg (pe_me (pe_fd (T.cls "Transaction") (T.na "Transaction" "owner") (pv 0)) (T.cls "Client") (T.me "Client" "behind") (ok_Listener_behind (P := P) T) (hr.mono (by decide)) (pa_cons (pe_me0 (pv 0) (T.cls "Transaction") (T.me "Transaction" "wishes") (ok_Transaction_wishes (P := P) T) (hr.mono (by decide))) pa_nil)) (pg_tup rfl (pgs_cons (pgn 4 sc_Transaction_commit.nd) (pgs_cons (pgn 5 sc_Transaction_commit.nd) pgs_nil))))
      (pss_cons (ps_lock (ps_setLc (i := 6) (own := [("member", 7)]) rfl sc_Transaction_commit.nd rfl rfl rfl (pi_values (pe_fd (T.cls "Store") (T.na "Store" "members") (pe_fd (T.cls "Transaction") (T.na "Transaction" "store") (pv 0)))) (blkN sc_Transaction_commit) (fun _ _ _ _ _ => pgn 7 sc_Transaction_commit.nd) (fun _ _ _ _ _ => pts_one (pt_cmpR op_ne (pe_fd (T.cls "Client") (T.na "Client" "name") (pv 7)) (pe_fd (T.cls "Client") (T.na "Client" "name") (pe_fd (T.cls "Transaction") (T.na "Transaction" "owner") (pv 0))) (nomark _))) (fun _ _ _ _ _ => pe_fd (T.cls "Client") (T.na "Client" "position") (pv 7))))
      (pss_cons (ps_setLc (i := 6) (own := [("place", 8)]) rfl sc_Transaction_commit.nd rfl rfl rfl (pi_list (pe_lst (StX.pa_star (pv 6) (pa_cons (pv 5) pa_nil)))) (blkN sc_Transaction_commit) (fun _ _ _ _ _ => pgn 8 sc_Transaction_commit.nd) (fun _ _ _ _ _ => pts_one (pt_cmpR op_notN (pv 8) pe_non (nomark _))) (fun _ _ _ _ _ => pv 8))
      (pss_cons (ps_if (pt_cmpR (op_neD hr.units) (pv 6) (pe_lst pa_nil) (nomark _))
        (pss_cons (pst 9 sc_Transaction_commit.nd (pe_op op_add (pe_op op_sub (pe_pr (pe_fd (T.cls "Transaction") (T.na "Transaction" "store") (pv 0)) (T.cls "Store") T.room (ok_Store_room (P := P) T) (hr.mono (by decide))) (pe_callB call_len_seq (by rfl) (T.free "len") (by decide +kernel) (pa_cons (pe_fd (T.cls "Store") (T.na "Store" "queue") (pe_fd (T.cls "Transaction") (T.na "Transaction" "store") (pv 0))) pa_nil))) (pe_callB (cr_min rfl) (by rfl) (T.free "min") (by decide +kernel) (pa_cons (pv 6) pa_nil))))
        (pss_one (ps_if (pt_cmpR op_gt (pe_callB (call_lenOwn (T.me "Batch" "__len__") (ok_Batch___len__ (P := P) T) (hr.mono (by decide))) (by rfl) (T.free "len") (by decide +kernel) (pa_cons (pv 2) pa_nil)) (pv 9) (nomark _))
          (pss_one ps_never)
          pss_nil)))
        pss_nil)
      (pss_cons (ps_fd (T.cls "Client") (T.na "Client" "starts") (pe_fd (T.cls "Transaction") (T.na "Transaction" "owner") (pv 0)) (pv 4))
      (pss_cons (ps_fd (T.cls "Client") (T.na "Client" "position") (pe_fd (T.cls "Transaction") (T.na "Transaction" "owner") (pv 0)) (pv 5))
      (pss_cons (ps_expr (pe_me0 (pv 0) (T.cls "Transaction") (T.me "Transaction" "end") (ok_Transaction_end (P := P) T) (hr.mono (by decide))))
      (pss_one (ps_ret (pe_me (pe_fd (T.cls "Transaction") (T.na "Transaction" "store") (pv 0)) (T.cls "Store") (T.me "Store" "keep") (ok_Store_keep (P := P) T) (hr.mono (by decide)) (pa_cons (pe_fd (T.cls "Client") (T.na "Client" "name") (pe_fd (T.cls "Transaction") (T.na "Transaction" "owner") (pv 0))) (pa_cons (pv 1) (pa_cons (pv 2) pa_nil))))))))))))))))), ?_⟩
    have ntc : tx ≠ c := ne_of ht hc fun z => by injection z with _ _ h; cases h
    refine ⟨_, rfl, _, _, _, rfl, ht, rfl, tx, dx, S, c, sn, _, rw, mk, rfl, ht, ?_⟩
    refine ⟨_, rfl, _, _, _, rfl, ht, rfl, tx, dx, S, c, sn, _, rw, mk, true, rs, rows, rfl, ht, hw, hr', hlr, fun H1 D s1 nD eD => ?_⟩
    rw [ech] at eD
    refine ⟨_, rfl, _, _, _, rfl, s1 _ _ ht, rfl, tx, dx, S, c, sn, _, rw, mk, rs, rows, ds, r, DC, DM, PL, QL, rfl, s1 _ _ ht, s1 _ _ hS, hru, s1 _ _ hw, Paired.mapP hr' fun _ _ h => h.same s1, hlr, ?_, fun H2 b db q s2 nb eb hq => ?_⟩
    · rcases hone with h | ⟨n, e, dn, c', z, h1, h2, en⟩
      · exact .inl h
      · exact .inr ⟨n, e, dn, c', z, h1, h2, s1 _ _ en⟩
    have s12 := s1.trans s2
    have eD2 := s2 _ _ eD
    have nD2 : H D = none := nD
    have kH : ∀ {b : Addr} {o : HO}, H b = some o → H2 b = some o := fun e => s12 _ _ e
    refine ⟨_, rfl, D, setL ch, ksL ch, rfl, .inl eD2, by cases ch <;> rfl, ksL_lt ch, fun ys p hperm _ np => ?_⟩
    have eys : ys = ksL ch := perm_le1 hperm (ksL_le ch)
    subst eys
    have s3 : Same H2 (upd H2 p (.lst ((ksL ch).map V.str))) := Same.new np
    have ep : upd H2 p (.lst ((ksL ch).map V.str)) p = some (.lst ((ksL ch).map V.str)) := upd_same
    generalize upd H2 p (.lst ((ksL ch).map V.str)) = H3 at s3 ep ⊢
    have s13 := s12.trans s3
    refine ⟨p, rfl, ⟨_, .of ep⟩, for_it (walk_list (xs := (ksL ch).map V.str)) (fun i σ H' => (∃ u3, σ = [some (.ref tx), some (.ref D), some (.ref b), u3, none, none, none, none, none, none]) ∧ H' = H3) ⟨⟨_, rfl⟩, rfl⟩ ?_ ?_ ?_⟩
    · rintro i σ H' _ ⟨_, rfl⟩
      exact .of ep
    · rintro i x σ _ H' hi ⟨⟨u3, rfl⟩, rfl⟩ ⟨rfl, hx⟩
      have hch : ch.isSome = true := by
        cases ch with
        | none => exact absurd hi (Nat.not_lt_zero _)
        | some _ => rfl
      have hxa : x = .str "a" := by
        cases ch with
        | none => cases hch
        | some _ =>
          have hi0 : i = 0 := by
            have : i < 1 := hi
            omega
          subst hi0
          cases hx
          rfl
      subst hxa
      refine ⟨_, rfl, _, _, _, _, rfl, s13 _ _ ht, rfl, _, _, _, _, rfl, s13 _ _ hS, rfl, _, rfl, DC, _, rfl, DGet.k (k := kA) (s13 _ _ hD), ?_⟩
      refine ⟨_, _, _, _, rfl, rfl, .of (s13 _ _ ht0), rfl, _, rfl, _, _, _, _, rfl, s13 _ _ ht, rfl, _, _, rfl, rfl, false, congrArg V.bl (decide_eq_false (by have := hbg hch; omega)), ⟨_, rfl⟩, rfl⟩
    · rintro σ H3 ⟨⟨u3, rfl⟩, rfl⟩
      have rw3 := s13 _ _ hw
      refine ⟨_, rfl, _, _, _, _, rfl, s13 _ _ ht, rfl, _, _, _, rfl, s13 _ _ hc, rfl, ?_⟩
      refine ⟨_, rfl, _, _, _, rfl, s13 _ _ ht, rfl, tx, dx, S, c, sn, _, rw, mk, true, rs, rows, rfl, s13 _ _ ht, rw3, Paired.mapP hr' fun _ _ h => h.same s13, hlr, fun H4 W s4 nW eW => ?_⟩
      rw [ewl] at eW
      have s14 := s13.trans s4
      have nWst : W ≠ st := Ne.symm (ne_of_none (s13 _ _ hst) nW)
      refine ⟨c, dc, S, nm, .ref tx, st, po, W, sl, wl, ds, r, DC, DM, PL, QL, qs, rfl, s14 _ _ hc, s14 _ _ hS, s14 _ _ hQ, s14 _ _ hst, eW, hwl, nWst, fun H5 t st' s5 nst ht5 est => ?_⟩
      generalize hbs : behS qs.length sl po wl = bs at ht5 est k
      have s15 := s14.trans s5
      refine ⟨t, _, rfl, ht5, rfl, _, _, rfl, _, _, rfl, rfl, ?_⟩
      have hM5 := s15 _ _ hM
      have nSM : S ≠ DM := ne_of hS hM fun z => nomatch z
      have ntM : tx ≠ DM := ne_of ht hM fun z => nomatch z
      have ncM : c ≠ DM := ne_of hc hM fun z => nomatch z
      refine ⟨DM, _, hM5, True.intro, fun od => ?_⟩
      refine ⟨_, rfl, _, _, _, _, rfl, (upd_ne ntM).trans (s15 _ _ ht), rfl, _, _, _, _, rfl, (upd_ne nSM).trans (s15 _ _ hS), rfl, DM, od, _, rfl, upd_same, fun A hA => ?_⟩
      have hAM : A ≠ DM := fun e => by rw [e, upd_same] at hA; cases hA
      have hA5 : H5 A = none := by rw [upd_ne hAM] at hA; exact hA
      refine lc_it walk_values (LcI (upd H5 DM (.frz od (.dK (List.map memK ms)))) A ms (outPos nm)) (LcI.zero hA) (fun _ _ _ q => q.s _ _ upd_same) ?_ ?_
      · rintro i x H6 H7 hi q ⟨rfl, kk, hk⟩
        obtain ⟨m, hm, em⟩ := get_map hk
        cases em
        obtain ⟨dm, wk, stm, hmO⟩ := hms m (List.mem_of_getElem? hm)
        have hmO7 := q.s _ _ ((upd_ne (ne_of hmO hM fun z => nomatch z)).trans (s15 _ _ hmO))
        have ht7 := q.s _ _ ((upd_ne ntM).trans (s15 _ _ ht))
        have hc7 := q.s _ _ ((upd_ne ncM).trans (s15 _ _ hc))
        refine ⟨rfl, _, rfl, _, _, _, _, rfl, hmO7, rfl, _, rfl, _, _, _, _, rfl, ht7, rfl, _, _, _, _, rfl, hc7, rfl, rfl, _, rfl, ?_⟩
        by_cases hnm : m.1 = nm
        · rw [show decide (V.str m.1 = V.str nm) = true from sT hnm]
          exact q.skip hm (fun _ _ e => e) (by rw [outPos, if_pos hnm])
        · rw [show decide (V.str m.1 = V.str nm) = false from sF hnm]
          refine ⟨_, rfl, _, _, _, _, rfl, hmO7, rfl, ?_⟩
          exact q.push hA hm (fun _ _ e => e) (by rw [outPos, if_neg hnm]) (flat_lt (fun m => by unfold outPos; split <;> simp) (by rw [line_eq]; omega))
      · intro H7 q7
        have q2 : LcI (upd H5 DM (.frz od (.dK (List.map memK ms)))) A ms (outPos nm) ms.length H7 := by
          rw [List.length_map] at q7
          exact q7
        have eA := q2.all
        have eM := q2.s _ _ upd_same
        have s7 : Same H5 (upd H7 DM (.dK (List.map memK ms))) := Same.unlock q2.s hM5
        have eA7 := (upd_ne (H := H7) (o := .dK (List.map memK ms)) hAM).trans eA
        refine ⟨eM, ?_⟩
        generalize upd H7 DM (.dK (List.map memK ms)) = H8 at s7 eA7 ⊢
        rw [oths_eq] at eA7
        have s17 := s15.trans s7
        have lo := oths_len nm ms
        refine ⟨_, rfl, A, _, rfl, .inr (.of eA7), _, rfl, ?_, fun L nL => ?_⟩
        · simp only [List.length_append, List.length_map, List.length_cons, List.length_nil]
          rw [line_eq]
          omega
        have s8 := Same.new (H := H8) (o := .lst ((oths nm ms).map pV ++ [pV bs.2])) nL
        have eL : upd H8 L (.lst ((oths nm ms).map pV ++ [pV bs.2])) L = some (.lst ((oths nm ms ++ [bs.2]).map pV)) := by
          rw [upd_same, List.map_append]
          rfl
        have lo2 : (oths nm ms ++ [bs.2]).length ≤ 9 := by
          rw [List.length_append, List.length_singleton]
          omega
        generalize hos : oths nm ms ++ [bs.2] = os at eL lo2
        refine ⟨L, rfl, ⟨_, .of eL⟩, fun B hB => lc_it (walk_list (xs := os.map pV)) (LcI _ B os outNum) (LcI.zero hB) (fun _ _ _ q => .of (q.s _ _ eL)) ?_ ?_⟩
        · rintro i x Ha Hb hi q ⟨rfl, hx⟩
          obtain ⟨o, ho, rfl⟩ := get_map hx
          refine ⟨rfl, _, rfl, rfl, _, rfl, ?_⟩
          cases o with
          | none =>
            refine q.skip ho (fun _ _ e => e) rfl
          | some n =>
            refine ⟨_, rfl, ?_⟩
            exact q.push hB ho (fun _ _ e => e) rfl (flat_lt (fun o => by cases o <;> simp [outNum]) (by rw [line_eq]; omega))
        · intro H9 q9
          have q2 : LcI (upd H8 L (.lst ((oths nm ms).map pV ++ [pV bs.2]))) B os outNum os.length H9 := by
            rw [List.length_map] at q9
            exact q9
          have eB := q2.all
          rw [numsO_eq] at eB
          have s9 := (s17.trans s8).trans q2.s
          refine ⟨_, rfl, ll rfl, fun Z nZ => ⟨.list ((numsO os).map PyData.int), .list [], .lst (.of (Same.new nZ _ _ eB)) (ints_dp _), .lst (.of upd_same) .nil, ints_shapedL _, rfl, _, rfl, ?_⟩⟩
          rw [eqv_nilL]
          have sZ := s9.trans (Same.new (o := .lst []) nZ)
          have eBZ := Same.new (o := .lst []) nZ _ _ eB
          have s12Z : Same H2 (upd H9 Z (.lst [])) := s3.trans (s4.trans (s5.trans (s7.trans (s8.trans (q2.s.trans (Same.new nZ))))))
          have estZ : upd H9 Z (.lst []) st' = some (.dK (sV bs.1)) := (s7.trans (s8.trans (q2.s.trans (Same.new nZ)))) _ _ est
          have nst0 : H st' = none := none_of s14 nst
          generalize upd H9 Z (.lst []) = HZ at sZ eBZ s12Z estZ ⊢
          have hbl : (rows.flatMap outSay).length ≤ 1 := by
            rcases hone with h | ⟨n, e, _⟩
            · rw [h]
              exact Nat.zero_le _
            · rw [e]
              exact Nat.le_refl _
          by_cases hn : numsO os = []
          case' pos =>
            rw [decide_eq_true hn]
            refine ⟨_, rfl, _, rfl, _, _, _, _, rfl, sZ _ _ ht, rfl, c, dc, _, _, rfl, sZ _ _ hc, rfl, lt_b rfl, ?_⟩
          case' neg =>
            rw [decide_eq_false hn]
            refine ⟨_, rfl, _, _, _, _, rfl, sZ _ _ ht, rfl, _, _, _, rfl, sZ _ _ hS, S, ds, r, DC, DM, PL, QL, rfl, sZ _ _ hS, ?_⟩
            refine ⟨_, rfl, _, _, _, _, rfl, sZ _ _ ht, rfl, _, _, _, _, rfl, sZ _ _ hS, rfl, _, _, rfl, .inl (.of (sZ _ _ hQ)), _, _, rfl, rfl, ?_⟩
            refine ⟨_, rfl, B, numsO os, rfl, .of eBZ, List.length_pos_iff.mpr hn, fun m hm _ => ⟨_, _, rfl, rfl, ?_⟩⟩
            have hm0 := numsO_pos hm
            refine ⟨_, rfl, b, db, _, rfl, s12Z _ _ eb, b, db, r, q, _, rfl, s12Z _ _ eb, SqTs s12Z hq, _, rfl, by omega, by omega, _, rfl, _, _, rfl, rfl, false, congrArg V.bl (decide_eq_false (by omega)), ?_⟩
            refine ⟨_, rfl, _, rfl, _, _, _, _, rfl, sZ _ _ ht, rfl, c, dc, _, _, rfl, sZ _ _ hc, rfl, lt_b rfl, ?_⟩
          all_goals
            generalize e1 : upd HZ c _ = Ha
            have c1 : Ha c = some (ClO K dc S nm (.ref tx) st' (pV po)) := by
              rw [← e1]
              exact upd_same
            have f1 : Fr [c] HZ Ha := by
              rw [← e1]
              exact Fr.upd (.head _)
            have t1 := f1 _ _ (sZ _ _ ht) (by simpa using ntc)
            refine ⟨_, rfl, _, rfl, _, _, _, _, rfl, t1, rfl, c, dc, _, _, rfl, c1, rfl, lt_b rfl, ?_⟩
            generalize e2 : upd Ha c _ = Hb
            have c2 : Hb c = some (ClO K dc S nm (.ref tx) st' (pV bs.2)) := by
              rw [← e2]
              exact upd_same
            have f2 : Fr [c] HZ Hb := f1.trans (by rw [← e2]; exact Fr.upd (.head _))
            have t2 := f2 _ _ (sZ _ _ ht) (by simpa using ntc)
            refine ⟨_, rfl, _, _, _, rfl, t2, rfl, tx, dx, S, c, sn, _, rw, mk, dc, nm, _, st', _, rfl, t2, c2, ntc, fun Hc f3 t3 c3 => ?_⟩
            have fc : Fr [tx, c] HZ Hc := (f2.mono (by simp)).trans f3
            have gc : ∀ {x : Addr} {o : HO}, HZ x = some o → x ≠ tx → x ≠ c → Hc x = some o := fun e h1 h2 => fc _ _ e (by simp [h1, h2])
            have nSt : S ≠ tx := ne_of hS ht fun z => by injection z with _ _ h; cases h
            have nSc : S ≠ c := ne_of hS hc fun z => by injection z with _ _ h; cases h
            have nDt : DC ≠ tx := ne_of hD ht fun z => nomatch z
            have nDc : DC ≠ c := ne_of hD hc fun z => nomatch z
            have nQt : QL ≠ tx := ne_of hQ ht fun z => nomatch z
            have nQc : QL ≠ c := ne_of hQ hc fun z => nomatch z
            have nPt : PL ≠ tx := ne_of hP ht fun z => nomatch z
            have nPc : PL ≠ c := ne_of hP hc fun z => nomatch z
            have nb0 : H b = none := none_of s1 nb
            have nbt : b ≠ tx := Ne.symm (ne_of_none ht nb0)
            have nbc : b ≠ c := Ne.symm (ne_of_none hc nb0)
            have hS3 := gc (sZ _ _ hS) nSt nSc
            have eDc := gc (s12Z _ _ eD2) (Ne.symm (ne_of_none ht nD)) (Ne.symm (ne_of_none hc nD))
            have eb3 := gc (s12Z _ _ eb) nbt nbc
            have hqc : SqT K Hc q (rows.flatMap outSay) := by
              rcases SqTs s12Z hq with (h | ⟨o, h⟩) | h
              · exact .inl (.inl (gc h (ne_of h (sZ _ _ ht) fun z => nomatch z) (ne_of h (sZ _ _ hc) fun z => nomatch z)))
              · exact .inl (.inr ⟨o, gc h (ne_of h (sZ _ _ ht) fun z => nomatch z) (ne_of h (sZ _ _ hc) fun z => nomatch z)⟩)
              · exact .inr h
            refine ⟨_, rfl, _, _, _, _, rfl, t3, rfl, _, _, _, rfl, hS3, rfl, _, rfl, _, _, _, _, rfl, t3, rfl, _, _, _, _, rfl, c3, rfl, _, rfl, _, rfl, ?_⟩
            refine ⟨S, ds, r, DC, DM, PL, QL, nm, D, ch, b, db, r, q, _, t0, qs, past, rfl, hS3, eDc, gc (sZ _ _ hD) nDt nDc, Ne.symm (ne_of_none hD nD), nQP, eb3, hqc, by omega, gc (sZ _ _ hQ) nQt nQc, gc (sZ _ _ hP) nPt nPc, by omega, hlp, fun H' qn pv fk kw eQ pQ eP => ?_⟩
            have nst1 : st' ≠ tx := Ne.symm (ne_of_none ht nst0)
            have nst2 : st' ≠ c := Ne.symm (ne_of_none hc nst0)
            refine k H' st' qn pv ?_ nst0 ?_ ?_ ?_ kw eQ pQ eP
            · exact (Fr.same sZ).trans ((fc.mono (by simp)).trans (fk.mono (by simp)))
            · exact fk _ _ t3 (by simp [Ne.symm nDt, Ne.symm nQt, Ne.symm nPt])
            · exact fk _ _ c3 (by simp [Ne.symm nDc, Ne.symm nQc, Ne.symm nPc])
            · exact fk _ _ (gc estZ nst1 nst2) (by simp [Ne.symm (ne_of_none hD nst0), Ne.symm (ne_of_none hQ nst0), Ne.symm (ne_of_none hP nst0)])
    
end
end CN
end
section
set_option Elab.async false
set_option linter.all false
set_option maxRecDepth 100000
set_option maxHeartbeats 4000000
namespace CN
open PySem PySem.Spec PyProof.Rows L2
local macro_rules | `(tactic| trivial) => `(tactic| exact Led.get (by assumption) 9)
local macro_rules | `(tactic| trivial) => `(tactic| exact Led.get (by assumption) 8)
local macro_rules | `(tactic| trivial) => `(tactic| exact Led.get (by assumption) 7)
local macro_rules | `(tactic| trivial) => `(tactic| exact Led.get (by assumption) 6)
local macro_rules | `(tactic| trivial) => `(tactic| exact Led.get (by assumption) 5)
local macro_rules | `(tactic| trivial) => `(tactic| exact Led.get (by assumption) 4)
local macro_rules | `(tactic| trivial) => `(tactic| exact Led.get (by assumption) 3)
local macro_rules | `(tactic| trivial) => `(tactic| exact Led.get (by assumption) 2)
local macro_rules | `(tactic| trivial) => `(tactic| exact Led.get (by assumption) 1)
local macro_rules | `(tactic| trivial) => `(tactic| exact Led.get (by assumption) 0)
section
variable {P : Program} {w : World} {K : PySem.W.Frag} {mg : Str → Option Value} {base : Heap} [POk P]
/-- one step of a sender's run -/
inductive Stp where
  | set (w : Str) | say (w : Str) | lis | unl
def StpL : Stp → List V
  | .set w => [.str "set", .str "a", .str w]
  | .say w => [.str "say", .str "a", .str w]
  | .lis => [.str "listen", .str "a"]
  | .unl => [.str "unlisten", .str "a"]
def StpOk : Stp → Bool
  | .set w => okW w
  | .say w => okW w
  | _ => true
def RowOf (K : PySem.W.Frag) (H : Hp) : Stp → Row → Prop
  | .set w, r => r = .set w
  | .say w, r => ∃ n dn, r = .say n ∧ H n = some (.ins (He.ga K "Notice") dn (NoteF "a" w))
  | .lis, r => r = .lis
  | .unl, r => r = .unl
def sp_do_step (K : PySem.W.Frag) : Sp := fun vs H Q E => ∃ tx dx S ow sn bg rw mk kvs p stp rs, vs = [.ref tx, .ref p] ∧ H tx = some (TxO K dx S ow sn bg rw mk true) ∧ H sn = some (.dK kvs) ∧ (valV kvs kA).isSome = true ∧ SqT K H p (StpL stp) ∧ StpOk stp = true ∧ H rw = some (.lst rs) ∧ rs.length < 1000 ∧
  ∀ H' t row, Fr [rw] H H' → H' rw = some (.lst (rs ++ [.ref t])) → H' t = some (.tup (RowL row)) → RowOf K H' stp row → Q .non H'
theorem sc_do_step : FnScope ["work", "step"] ["work", "step"] (defScope s_do_step) := ⟨rfl, rfl, rfl, by decide +kernel, rfl, by decide +kernel, by decide +kernel⟩
theorem ok_do_step (T : TX w K mg) : FnR P w K mg base CX0 6 (a_do_step K) (sp_do_step K) := by
  obtain ⟨fd, F⟩ := T.fn 55 rfl rfl
  refine fR F sc_do_step (fun _ _ _ _ _ _ us hl => match us, hl with | [_, _], _ => rfl) (fun vs H Q E h => ?_) (fun cdv A outer s H vs Q E hr h => ?_)
  · obtain ⟨tx, dx, S, ow, sn, bg, rw, mk, kvs, p, stp, rs, rfl, ht, hs, hv, hp, hok, hw, hl, k⟩ := h
    rfl
  · obtain ⟨tx, dx, S, ow, sn, bg, rw, mk, kvs, p, stp, rs, rfl, ht, hs, hv, hp, hok, hw, hl, k⟩ := h
    refine ⟨_, (pss_cons (ps_if (PW.pt (pw_or (pt_not (pt_val (pe_callB call_isi (by rfl) (T.free "isinstance") (by decide +kernel) (pa_cons (pv 1) (pa_cons (pe_bltn (v := .ty "tuple") (by rfl) (T.free "tuple") (by decide +kernel) rfl) pa_nil))))) (pw_or (pt_cmpR op_eq (pe_callB call_len_seq (by rfl) (T.free "len") (by decide +kernel) (pa_cons (pv 1) pa_nil)) pe_int (nomark _)) (pw_or1 (pt_not (pt_val (pe_callB call_isi (by rfl) (T.free "isinstance") (by decide +kernel) (pa_cons (pe_ix ix_tup (pv 1) pe_int (fun _ _ => rfl)) (pa_cons (pe_bltn (v := .ty "str") (by rfl) (T.free "str") (by decide +kernel) rfl) pa_nil)))))))))
        (pss_one ps_never)
        pss_nil)
      (pss_cons (ps_if (pt_cmpR op_ne (pe_kget T.lens rfl (T.ref "LENGTHS") (pe_ix ix_tup (pv 1) pe_int (fun _ _ => rfl)) pe_int) (pe_callB call_len_seq (by rfl) (T.free "len") (by decide +kernel) (pa_cons (pv 1) pa_nil)) (nomark _))
        (pss_one ps_never)
        pss_nil)
      (pss_one (ps_if (pt_cmpR op_eq (pe_ix ix_tup (pv 1) pe_int (fun _ _ => rfl)) pe_str (nomark _))
        (pss_one (ps_asg (pe_ix ix_tup (pv 1) pe_int (fun _ _ => rfl)) (pg_sub (pv 0) (pe_ix ix_tup (pv 1) pe_int (fun _ _ => rfl)) (set_own T.noSeq (T.me "Transaction" "__setitem__") (ok_Transaction___setitem__ (P := P) T) (hr.mono (by decide))))))
        (pss_one (ps_if (pt_cmpR op_eq (pe_ix ix_tup (pv 1) pe_int (fun _ _ => rfl)) pe_str (nomark _))
          (pss_one (psaug 0 sc_do_step.nd (pe_mk (T.mkr "Notice") (ok_Notice___init__ (P := P) T) (hr.mono (by decide)) (by rfl) (T.ref "Notice") (pa_cons (pe_ix ix_tup (pv 1) pe_int (fun _ _ => rfl)) (pa_cons (pe_ix ix_tup (pv 1) pe_int (fun _ _ => rfl)) pa_nil))) (ip_own T.selfFirst (T.me "Transaction" "__iadd__") (ok_Transaction___iadd__ (P := P) T) (hr.mono (by decide)))))
          (pss_one (ps_if (pt_cmpR op_eq (pe_ix ix_tup (pv 1) pe_int (fun _ _ => rfl)) pe_str (nomark _))
            (pss_one (ps_expr (pe_me (pv 0) (T.cls "Transaction") (T.me "Transaction" "listen") (ok_Transaction_listen (P := P) T) (hr.mono (by decide)) (pa_cons (pe_ix ix_tup (pv 1) pe_int (fun _ _ => rfl)) pa_nil))))
            (pss_one (ps_expr (pe_me (pv 0) (T.cls "Transaction") (T.me "Transaction" "unlisten") (ok_Transaction_unlisten (P := P) T) (hr.mono (by decide)) (pa_cons (pe_ix ix_tup (pv 1) pe_int (fun _ _ => rfl)) pa_nil)))))))))))), ?_⟩
    refine ⟨_, rfl, _, _, _, _, true, rfl, .ty "tuple", tyT hp, kit_same _, true, rfl, ?_⟩
    have h0 : ∃ z i, atI (StpL stp) 0 = some (.str z) ∧ (∃ t, PySem.W.nsIn K (He.ga K "LENGTHS") z = some (some (.int i t))) ∧ i = ((StpL stp).length : Int) ∧ 0 < (StpL stp).length := by
      cases stp with
      | set w => exact ⟨"set", 3, rfl, T.lenAt (by simp), rfl, Nat.succ_pos _⟩
      | say w => exact ⟨"say", 3, rfl, T.lenAt (by simp), rfl, Nat.succ_pos _⟩
      | lis => exact ⟨"listen", 2, rfl, T.lenAt (by simp), rfl, by decide⟩
      | unl => exact ⟨"unlisten", 2, rfl, T.lenAt (by simp), rfl, by decide⟩
    obtain ⟨z, i, h0, hz, hi, hpos⟩ := h0
    refine ⟨_, rfl, _, _, rfl, .inr hp, rfl, false, congrArg V.bl (iF (by omega)), ?_⟩
    refine ⟨_, rfl, _, _, _, _, rfl, rfl, hp, h0, _, _, _, _, true, rfl, .ty "str", .base (.str _), kit_same _, true, rfl, ?_⟩
    refine ⟨_, rfl, _, _, _, _, rfl, rfl, hp, h0, z, i, rfl, hz, _, rfl, _, _, rfl, .inr hp, rfl, false, congrArg (fun b => V.bl (!b)) (iT hi), ?_⟩
    cases stp with
    | set w =>
      cases h0
      refine ⟨_, rfl, _, _, _, _, rfl, rfl, hp, rfl, rfl, true, congrArg V.bl (sT rfl), ?_⟩
      refine ⟨_, rfl, _, _, _, _, rfl, rfl, hp, rfl, _, rfl, _, rfl, _, _, _, _, rfl, rfl, hp, rfl, tx, dx, _, rfl, ht, tx, dx, S, ow, sn, bg, rw, mk, kvs, w, rs, rfl, ht, hs, hv, hok, hw, hl, fun H' t f e1 e2 => ?_⟩
      exact k H' t (.set w) f e1 e2 rfl
    | say w =>
      cases h0
      refine ⟨_, rfl, _, _, _, _, rfl, rfl, hp, rfl, rfl, false, congrArg V.bl (sF (by decide)), ?_⟩
      refine ⟨_, rfl, _, _, _, _, rfl, rfl, hp, rfl, rfl, true, congrArg V.bl (sT rfl), ?_⟩
      refine ⟨_, rfl, _, rfl, _, _, _, _, rfl, rfl, hp, rfl, _, rfl, _, _, _, _, rfl, rfl, hp, rfl, fun n dn n1 n2 ne => ?_⟩
      have s1 : Same H (upd (upd H dn (.own n)) n (.ins (He.ga K "Notice") dn [])) := (Same.new n2).trans (Same.new (by rw [upd_ne (Ne.symm ne)]; exact n1))
      refine ⟨n, dn, "a", w, rfl, upd_same, rfl, hok, fun H1 f1 e1 => ⟨rfl, ?_⟩⟩
      have sx : Same H H1 := (Fr.drop n1 ((Fr.same s1).trans f1)).toSame
      refine ⟨tx, dx, _, rfl, sx _ _ ht, tx, dx, S, ow, sn, bg, rw, mk, n, dn, _, rs, rfl, sx _ _ ht, e1, sx _ _ hw, hl, fun H' t f e3 e4 => ?_⟩
      exact k H' t (.say n) ((Fr.same sx).trans f) e3 e4 ⟨n, dn, rfl, f _ _ e1 (by simpa using ne_of e1 (sx _ _ hw) fun z => nomatch z)⟩
    | lis =>
      cases h0
      refine ⟨_, rfl, _, _, _, _, rfl, rfl, hp, rfl, rfl, false, congrArg V.bl (sF (by decide)), ?_⟩
      refine ⟨_, rfl, _, _, _, _, rfl, rfl, hp, rfl, rfl, false, congrArg V.bl (sF (by decide)), ?_⟩
      refine ⟨_, rfl, _, _, _, _, rfl, rfl, hp, rfl, rfl, true, congrArg V.bl (sT rfl), ?_⟩
      refine ⟨_, rfl, _, _, _, rfl, ht, rfl, _, rfl, _, _, _, _, rfl, rfl, hp, rfl, [.ref tx], [.str "a"], rfl, rfl, ll rfl, fun p2 n2 => ?_⟩
      refine ⟨tx, dx, S, ow, sn, bg, rw, mk, p2, rs, rfl, Same.new n2 _ _ ht, upd_same, Same.new n2 _ _ hw, hl, fun H' t f e1 e2 => ?_⟩
      exact k H' t .lis ((Fr.new n2).trans f) e1 e2 rfl
    | unl =>
      cases h0
      refine ⟨_, rfl, _, _, _, _, rfl, rfl, hp, rfl, rfl, false, congrArg V.bl (sF (by decide)), ?_⟩
      refine ⟨_, rfl, _, _, _, _, rfl, rfl, hp, rfl, rfl, false, congrArg V.bl (sF (by decide)), ?_⟩
      refine ⟨_, rfl, _, _, _, _, rfl, rfl, hp, rfl, rfl, false, congrArg V.bl (sF (by decide)), ?_⟩
      refine ⟨_, rfl, _, _, _, rfl, ht, rfl, _, rfl, _, _, _, _, rfl, rfl, hp, rfl, [.ref tx], [.str "a"], rfl, rfl, ll rfl, fun p2 n2 => ?_⟩
      refine ⟨tx, dx, S, ow, sn, bg, rw, mk, p2, rs, rfl, Same.new n2 _ _ ht, upd_same, Same.new n2 _ _ hw, hl, fun H' t f e1 e2 => ?_⟩
      exact k H' t .unl ((Fr.new n2).trans f) e1 e2 rfl
    
end
end CN
end
section
set_option Elab.async false
set_option linter.all false
set_option maxRecDepth 100000
set_option maxHeartbeats 4000000
namespace CN
open PySem PySem.Spec PyProof.Rows L2
local macro_rules | `(tactic| trivial) => `(tactic| exact Led.get (by assumption) 9)
local macro_rules | `(tactic| trivial) => `(tactic| exact Led.get (by assumption) 8)
local macro_rules | `(tactic| trivial) => `(tactic| exact Led.get (by assumption) 7)
local macro_rules | `(tactic| trivial) => `(tactic| exact Led.get (by assumption) 6)
local macro_rules | `(tactic| trivial) => `(tactic| exact Led.get (by assumption) 5)
local macro_rules | `(tactic| trivial) => `(tactic| exact Led.get (by assumption) 4)
local macro_rules | `(tactic| trivial) => `(tactic| exact Led.get (by assumption) 3)
local macro_rules | `(tactic| trivial) => `(tactic| exact Led.get (by assumption) 2)
local macro_rules | `(tactic| trivial) => `(tactic| exact Led.get (by assumption) 1)
local macro_rules | `(tactic| trivial) => `(tactic| exact Led.get (by assumption) 0)
section
variable {P : Program} {w : World} {K : PySem.W.Frag} {mg : Str → Option Value} {base : Heap} [POk P]
def setS : Stp → List (Key × V)
  | .set w => [(kA, .str w)]
  | _ => []
def wishS : Stp → List (Key × V)
  | .lis => [(kA, .str "listen")]
  | .unl => [(kA, .str "unlisten")]
  | _ => []
def sayS : Stp → List Str
  | .say w => [w]
  | _ => []
def SpT (K : PySem.W.Frag) (H : Hp) (v : V) (s : Stp) : Prop := ∃ a, v = .ref a ∧ SqT K H a (StpL s)
def NoT (K : PySem.W.Frag) (H : Hp) (v : V) (z : Str) : Prop := ∃ n dn, v = .ref n ∧ H n = some (.ins (He.ga K "Notice") dn (NoteF "a" z))
def RoT (K : PySem.W.Frag) (H : Hp) (v : V) (s : Stp) : Prop := ∃ t row, v = .ref t ∧ H t = some (.tup (RowL row)) ∧ RowOf K H s row
theorem RoT.fr {K : PySem.W.Frag} {H H' : Hp} {q : Addr} {ys : List V} (f : Fr [q] H H') (hq : H q = some (.lst ys)) {v : V} {s : Stp} : RoT K H v s → RoT K H' v s := fun ⟨t, row, e, h1, h2⟩ => by
  refine ⟨t, row, e, f.tup1 hq h1, ?_⟩
  cases s with
  | say z =>
    obtain ⟨n, dn, e1, e2⟩ := h2
    exact ⟨n, dn, e1, f _ _ e2 (by simpa using ne_of e2 hq fun z => nomatch z)⟩
  | set _ => exact h2
  | lis => exact h2
  | unl => exact h2
theorem rows_of {K : PySem.W.Frag} {H : Hp} {rs : List V} {stps : List Stp} (h : Paired (RoT K H) rs stps) : ∃ rows, Paired (RowT H) rs rows ∧ rows.flatMap outSet = stps.flatMap setS ∧ rows.flatMap outWish = stps.flatMap wishS ∧
    Paired (NoT K H) (rows.flatMap outSay) (stps.flatMap sayS) ∧ rows.length = stps.length := by
  induction h with
  | nil => exact ⟨[], .nil, rfl, rfl, .nil, rfl⟩
  | @cons v s vs ss r t ih =>
    obtain ⟨rows, h1, h2, h3, h4, h5⟩ := ih
    obtain ⟨a, row, e, e1, e2⟩ := r
    refine ⟨row :: rows, .cons ⟨a, e, e1⟩ h1, ?_, ?_, ?_, by simp [h5]⟩
    · rw [List.flatMap_cons, List.flatMap_cons, h2]
      cases s with
      | say z => obtain ⟨n, dn, rfl, _⟩ := e2; rfl
      | set _ => cases e2; rfl
      | lis => cases e2; rfl
      | unl => cases e2; rfl
    · rw [List.flatMap_cons, List.flatMap_cons, h3]
      cases s with
      | say z => obtain ⟨n, dn, rfl, _⟩ := e2; rfl
      | set _ => cases e2; rfl
      | lis => cases e2; rfl
      | unl => cases e2; rfl
    · rw [List.flatMap_cons, List.flatMap_cons]
      cases s with
      | say z => obtain ⟨n, dn, rfl, h⟩ := e2; exact .cons ⟨n, dn, rfl, h⟩ h4
      | set _ => cases e2; exact h4
      | lis => cases e2; exact h4
      | unl => cases e2; exact h4
theorem Paired.comp2 {α β γ δ : Type} {R : α → β → Prop} {S : β → γ → Prop} {T : α → δ → Prop} {g : γ → δ} (h : ∀ a b c, R a b → S b c → T a (g c)) {as : List α} {bs : List β} (h1 : Paired R as bs) : ∀ {cs : List γ}, Paired S bs cs → Paired T as (cs.map g) := by
  induction h1 with
  | nil =>
    intro cs h2
    cases h2
    exact .nil
  | cons r _ ih =>
    intro cs h2
    cases h2 with
    | cons s t => exact .cons (h _ _ _ r s) (ih t)
def sb_Sender_run (K : PySem.W.Frag) : Sp := fun vs H Q E => ∃ c dc S nm st po sl ds r DC DM PL QL p ps stps ch wl t0 w0 n0 ms qs past, vs = [.ref c, .ref p] ∧ H p = some (.tup ps) ∧ Paired (SpT K H) ps stps ∧ (∀ s ∈ stps, StpOk s = true) ∧ List.length stps ≤ 8 ∧ H c = some (ClO K dc S nm .non st (pV po)) ∧ H S = some (StO K ds r DC DM PL QL) ∧ lRULES.contains r = true ∧
  putAll (stps.flatMap setS) [] = setL ch ∧ putAll (stps.flatMap wishS) [] = wV wl ∧ (wl = none ∨ wl = some "listen" ∨ wl = some "unlisten") ∧ (stps.flatMap sayS).length ≤ 1 ∧ (∀ z ∈ stps.flatMap sayS, okW z = true) ∧
  H DC = some (.dK [(kA, .ref t0)]) ∧ H t0 = some (.tup [.str w0, .int ((n0 : Nat) : Int)]) ∧ n0 ≤ List.length past ∧ H DM = some (.dK (List.map memK ms)) ∧ (∀ m ∈ ms, MemT K H S m) ∧ List.length ms ≤ 8 ∧
  H st = some (.dK (sV sl)) ∧ H QL = some (.lst qs) ∧ qs.length ≤ 100 ∧ H PL = some (.lst past) ∧ past.length < 1000 ∧ QL ≠ PL ∧
  ∀ H' st' qn pv, Fr [c, DC, QL, PL] H H' → H st' = none → H' c = some (ClO K dc S nm .non st' (pV (behS qs.length sl po wl).2)) → H' st' = some (.dK (sV (behS qs.length sl po wl).1)) →
    keptW H' DC t0 (past.length + 1) ch → H' QL = some (.lst (qs ++ qn)) → Paired (QuT K H') qn ((stps.flatMap sayS).map fun z => (past.length + 1, z)) → H' PL = some (.lst (past ++ [pv])) → Q (.int ((past.length + 1 : Nat) : Int)) H'
def sp_Sender_run (K : PySem.W.Frag) : Sp := fun vs H Q E => ∃ ws rest, vs = ws ++ rest ∧ ws.length = 1 ∧ rest.length ≤ sizeLine ∧ ∀ p, H p = none → sb_Sender_run K (ws ++ [V.ref p]) (upd H p (.tup rest)) Q E
theorem sc_Sender_run : FnScope ["self", "steps", "work", "step"] ((["self"] : List Str) ++ (["steps"] : List Str)) (defScope s_Sender_run) := ⟨rfl, rfl, rfl, by decide +kernel, rfl, by decide +kernel, by decide +kernel⟩
theorem ok_Sender_run (T : TX w K mg) : FnR P w K mg base CX0 7 (a_Sender_run K) (sp_Sender_run K) := by
  obtain ⟨fd, F⟩ := T.fn 59 rfl rfl
  refine fS (sp := sb_Sender_run K) (ps := (["self"] : List Str)) (pv := "steps") F sc_Sender_run (fun kV doc pm an cdv ct => StX.bind_star1 (B := fun l => bindArgs (PySem.W.fnOf _ _ _ _ _ .none kV doc pm an cdv ct) ⟨l, []⟩) (fun _ => rfl) (fun _ _ _ => rfl)) (fun cdv A outer s H vs Q E hr h => ?_)
  obtain ⟨c, dc, S, nm, st, po, sl, ds, r, DC, DM, PL, QL, p, ps, stps, ch, wl, t0, w0, n0, ms, qs, past, rfl, hp, hps, hoks, hln, hc, hS, hru, ech, ewl, hwl, hsl, hsok, hD, ht0, hn0, hM, hms, hlm, hst, hQ, hlq, hP, hlp, nQP, k⟩ := h
  refine ⟨_, (pss_cons (pst 2 sc_Sender_run.nd (pe_me0 (pv 0) (T.cls "Client") (T.me "Client" "begin") (ok_Sender_begin (P := P) T) (hr.mono (by decide))))
      (pss_one (ps_try_thru0 (pss_cons (ps_for PassesOwn.never rfl (pi_tup (pv 1)) (pgn 3 sc_Sender_run.nd)
          (pss_one (ps_expr (pe_cf (ok_do_step (P := P) T) (hr.mono (by decide)) (by rfl) (T.gf "do_step") (pa_cons (pv 2) (pa_cons (pv 3) pa_nil))))))
        (pss_one (ps_ret (pe_me0 (pv 2) (T.cls "Transaction") (T.me "Transaction" "commit") (ok_Transaction_commit (P := P) T) (hr.mono (by decide))))))))), ?_⟩
  have hlen : ps.length = stps.length := Paired.length hps
  refine ⟨_, rfl, _, _, _, rfl, hc, rfl, c, dc, S, nm, st, _, ds, r, DC, DM, PL, QL, _, past, rfl, hc, hS, hD, hP, fun H1 tx dx sn rw mk f1 n1 n2 n3 n4 m1 m2 m3 m4 c1 t1 sn1 rw1 mk1 => ?_⟩
  have g1 : ∀ {x : Addr} {o : HO}, H x = some o → x ≠ c → H1 x = some o := fun e h => f1 _ _ e (by simpa using h)
  have npc : p ≠ c := ne_of hp hc fun z => nomatch z
  have hp1 := g1 hp npc
  have hps1 : Paired (SpT K H1) ps stps := Paired.mapP hps fun v s ⟨a, e, h⟩ => ⟨a, e, by
    rcases h with (h | ⟨o, h⟩) | h
    · exact .inl (.inl (g1 h (ne_of h hc fun z => nomatch z)))
    · exact .inl (.inr ⟨o, g1 h (ne_of h hc fun z => nomatch z)⟩)
    · exact .inr h⟩
  refine ⟨_, rfl, p, rfl, ⟨_, .of hp1⟩, for_it (walk_tup (xs := ps)) (fun i σ H' => (∃ u3, σ = [some (.ref c), some (.ref p), some (.ref tx), u3]) ∧ Fr [rw] H1 H' ∧ ∃ rs, H' rw = some (.lst rs) ∧ Paired (RoT K H') rs (stps.take i)) ?_ ?_ ?_ ?_⟩
  · exact ⟨⟨_, rfl⟩, fun _ _ e _ => e, [], rw1, by rw [List.take_zero]; exact .nil⟩
  · rintro i σ H' _ ⟨_, f, _⟩
    exact .of (f _ _ hp1 (by simpa using ne_of hp1 rw1 fun z => nomatch z))
  · rintro i x σ _ H2 hi ⟨⟨u3, rfl⟩, f, rs, e1, e2⟩ ⟨rfl, hx⟩
    have hi2 : i < stps.length := by omega
    have hsi : stps[i]? = some stps[i] := List.getElem?_eq_getElem hi2
    obtain ⟨v, ev, a, rfl, ha⟩ := Paired.at hps1 hsi
    cases ev.symm.trans hx
    have hoki := hoks _ (List.getElem_mem hi2)
    generalize stps[i] = stp at hsi ha hoki
    have ha2 : SqT K H2 a (StpL stp) := by
      rcases ha with (h | ⟨o, h⟩) | h
      · exact .inl (.inl (f _ _ h (by simpa using ne_of h rw1 fun z => nomatch z)))
      · exact .inl (.inr ⟨o, f _ _ h (by simpa using ne_of h rw1 fun z => nomatch z)⟩)
      · exact .inr h
    have hl2 : rs.length = (stps.take i).length := Paired.length e2
    have hl3 : (stps.take i).length ≤ stps.length := by rw [List.length_take]; exact Nat.min_le_right _ _
    have t2 := f _ _ t1 (by simpa using m2)
    have sn2 := f _ _ sn1 (by simpa using ne_of sn1 rw1 fun z => nomatch z)
    refine ⟨_, rfl, _, rfl, tx, dx, S, c, sn, _, rw, mk, _, a, stp, rs, rfl, t2, sn2, rfl, ha2, hoki, e1, by omega, fun H3 t row f3 e3 e4 e5 => ?_⟩
    refine ⟨⟨_, rfl⟩, f.trans f3, _, e3, ?_⟩
    rw [take_at hsi]
    exact Paired.snoc (Paired.mapP e2 fun _ _ h => h.fr f3 e1) ⟨t, row, rfl, e4, e5⟩
  · rintro σ H2 ⟨⟨u3, rfl⟩, f, rs, e1, e2⟩
    rw [hlen, List.take_length] at e2
    obtain ⟨rows, r1, r2, r3, r4, r5⟩ := rows_of e2
    have m6 : c ≠ rw := ne_of_none hc n3
    have t2 := f _ _ t1 (by simpa using m2)
    have c2 := f _ _ c1 (by simpa using m6)
    have g2 : ∀ {x : Addr} {o : HO}, H x = some o → x ≠ c → H2 x = some o := fun e h => f _ _ (g1 e h) (by simpa using ne_of_none e n3)
    have hone : One K H2 (rows.flatMap outSay) := by
      have q4 := r4
      revert q4 hsl hsok
      generalize rows.flatMap outSay = L1
      generalize stps.flatMap sayS = L2
      intro hsl hsok q4
      cases q4 with
      | nil => exact .inl rfl
      | cons h t =>
        cases t with
        | nil =>
          obtain ⟨n, dn, rfl, hn⟩ := h
          exact .inr ⟨n, rfl, dn, "a", _, rfl, hsok _ (List.mem_cons_self ..), hn⟩
        | cons _ _ => simp at hsl
    have hS2 := g2 hS (ne_of hS hc fun z => by injection z with _ _ h; cases h)
    have hms2 : ∀ m ∈ ms, MemT K H2 S m := fun m hm => by
      obtain ⟨dm, wk, sm, h⟩ := hms m hm
      by_cases hmc : m.2.1 = c
      · rw [hmc, hc] at h
        have h' := Option.some.inj h
        injection h' with _ _ h'
        injection h' with _ h'
        injection h' with h1 h'
        injection h' with _ h'
        injection h' with _ h'
        injection h' with h3 _
        injection h1 with _ h1
        injection h1 with h1
        injection h3 with _ h3
        refine ⟨dc, .ref tx, st, ?_⟩
        rw [hmc, ← h1, ← h3]
        exact c2
      · exact ⟨dm, wk, sm, g2 h hmc⟩
    refine ⟨_, rfl, _, _, _, rfl, t2, rfl, tx, dx, S, c, sn, past.length, rw, mk, dc, nm, st, po, sl, ds, r, DC, DM, PL, QL, rs, rows, ch, wl, t0, w0, n0, ms, qs, past, rfl, t2, c2, hS2, hru, e1, r1, by omega, r2 ▸ ech, r3 ▸ ewl, hwl, hone,
      g2 hD (ne_of hD hc fun z => nomatch z), g2 ht0 (ne_of ht0 hc fun z => nomatch z), fun _ => hn0, g2 hM (ne_of hM hc fun z => nomatch z), hms2, hlm, g2 hst (ne_of hst hc fun z => nomatch z), g2 hQ (ne_of hQ hc fun z => nomatch z), hlq, g2 hP (ne_of hP hc fun z => nomatch z), hlp, nQP, fun H' st' qn pv fk nst' tx' cc' est' kw eQ pQ eP => ?_⟩
    refine k H' st' qn pv (fun b o e hb => ?_) ?_ cc' est' kw eQ ?_ eP
    · have hb' : b ≠ c ∧ b ≠ DC ∧ b ≠ QL ∧ b ≠ PL := by simpa using hb
      exact fk _ _ (g2 e hb'.1) (by simp [hb'.1, hb'.2.1, hb'.2.2.1, hb'.2.2.2, ne_of_none e n1])
    · cases e : H st' with
      | none => rfl
      | some o =>
        by_cases hsc : st' = c
        · rw [hsc, c2] at nst'
          cases nst'
        · have := g2 e hsc
          rw [nst'] at this
          cases this
    · refine Paired.comp2 (fun a b z ⟨q, e3, e4⟩ ⟨n, dn, e5, e6⟩ => ?_) pQ r4
      subst e5
      refine ⟨q, n, dn, e3, e4, fk _ _ e6 ?_⟩
      have q1 : n ≠ tx := ne_of e6 t2 fun z => by injection z with _ _ h; cases h
      have q2 : n ≠ c := ne_of e6 c2 fun z => by injection z with _ _ h; cases h
      have q3 : n ≠ DC := ne_of e6 (g2 hD (ne_of hD hc fun z => nomatch z)) fun z => nomatch z
      have q4 : n ≠ QL := ne_of e6 (g2 hQ (ne_of hQ hc fun z => nomatch z)) fun z => nomatch z
      have q5 : n ≠ PL := ne_of e6 (g2 hP (ne_of hP hc fun z => nomatch z)) fun z => nomatch z
      simp [q1, q2, q3, q4, q5]
  
end
end CN
end
section
set_option Elab.async false
set_option linter.all false
set_option maxRecDepth 100000
set_option maxHeartbeats 4000000
namespace CN
open PySem PySem.Spec PyProof.Rows L2
local macro_rules | `(tactic| trivial) => `(tactic| exact Led.get (by assumption) 9)
local macro_rules | `(tactic| trivial) => `(tactic| exact Led.get (by assumption) 8)
local macro_rules | `(tactic| trivial) => `(tactic| exact Led.get (by assumption) 7)
local macro_rules | `(tactic| trivial) => `(tactic| exact Led.get (by assumption) 6)
local macro_rules | `(tactic| trivial) => `(tactic| exact Led.get (by assumption) 5)
local macro_rules | `(tactic| trivial) => `(tactic| exact Led.get (by assumption) 4)
local macro_rules | `(tactic| trivial) => `(tactic| exact Led.get (by assumption) 3)
local macro_rules | `(tactic| trivial) => `(tactic| exact Led.get (by assumption) 2)
local macro_rules | `(tactic| trivial) => `(tactic| exact Led.get (by assumption) 1)
local macro_rules | `(tactic| trivial) => `(tactic| exact Led.get (by assumption) 0)
section
variable {P : Program} {w : World} {K : PySem.W.Frag} {mg : Str → Option Value} {base : Heap} [POk P]
/-! ### the keeper -/
def KeF (c : Addr) (way : Str) (wk : V) (n : Nat) (L : Addr) : List (Str × V) := [("guest", .ref c), ("cell", .str "a"), ("way", .str way), ("work", wk), ("number", .int (n : Int)), ("log", .ref L)]
def KeO (K : PySem.W.Frag) (dk c : Addr) (way : Str) (wk : V) (n : Nat) (L : Addr) : HO := .ins (He.ga K "Keeper") dk (KeF c way wk n L)
def heldV (ws : List Str) : V := match ws.getLast? with
  | none => .non
  | some z => .str z
def sp_Keeper___init__ (K : PySem.W.Frag) : Sp := fun vs H Q E => ∃ k dk c dc S nm wk st po ds r DC DM PL QL t w0 n way, vs = [.ref k, .ref c, .str "a", .str way] ∧ H k = some (.ins (He.ga K "Keeper") dk []) ∧ H c = some (ClO K dc S nm wk st po) ∧ H S = some (StO K ds r DC DM PL QL) ∧ CelT H DC t w0 n ∧ lUPDATES.contains way = true ∧
  ∀ H' L, Fr [k] H H' → H L = none → L ≠ k → H' L = some (.lst []) → H' k = some (KeO K dk c way .non 0 L) → Q .non H'
theorem sc_Keeper___init__ : FnScope ["self", "client", "cell", "way"] ["self", "client", "cell", "way"] (defScope s_Keeper___init__) := ⟨rfl, rfl, rfl, by decide +kernel, rfl, by decide +kernel, by decide +kernel⟩
theorem ok_Keeper___init__ (T : TX w K mg) : FnR P w K mg base CX0 2 (a_Keeper___init__ K) (sp_Keeper___init__ K) := by
  obtain ⟨fd, F⟩ := T.fn 35 rfl rfl
  refine fR F sc_Keeper___init__ (fun _ _ _ _ _ _ us hl => match us, hl with | [_, _, _, _], _ => rfl) (fun vs H Q E h => ?_) (fun cdv A outer s H vs Q E hr h => ?_)
  · obtain ⟨k, dk, c, dc, S, nm, wk, st, po, ds, r, DC, DM, PL, QL, t, w0, n, way, rfl, hk, hc, hS, hcel, hway, kk⟩ := h
    rfl
  · obtain ⟨k, dk, c, dc, S, nm, wk, st, po, ds, r, DC, DM, PL, QL, t, w0, n, way, rfl, hk, hc, hS, hcel, hway, kk⟩ := h
    refine ⟨_, (pss_cons (ps_expr (pe_me (pe_fd (T.cls "Client") (T.na "Client" "store") (pv 1)) (T.cls "Store") (T.me "Store" "present") (ok_Store_present (P := P) T) (hr.mono (by decide)) (pa_cons (pv 2) pa_nil)))
      (pss_cons (ps_if (PW.pt (pw_or (pt_not (pt_val (pe_callB call_isi (by rfl) (T.free "isinstance") (by decide +kernel) (pa_cons (pv 3) (pa_cons (pe_bltn (v := .ty "str") (by rfl) (T.free "str") (by decide +kernel) rfl) pa_nil))))) (pw_or1 (pt_cmpR op_notIn_seq (pv 3) (pe_gref rfl (T.ref "UPDATES")) (by rfl)))))
        (pss_one ps_never)
        pss_nil)
      (pss_cons (ps_fd (T.cls "Keeper") (T.na "Keeper" "guest") (pv 0) (pv 1))
      (pss_cons (ps_fd (T.cls "Keeper") (T.na "Keeper" "cell") (pv 0) (pv 2))
      (pss_cons (ps_fd (T.cls "Keeper") (T.na "Keeper" "way") (pv 0) (pv 3))
      (pss_cons (ps_fd (T.cls "Keeper") (T.na "Keeper" "work") (pv 0) pe_non)
      (pss_cons (ps_fd (T.cls "Keeper") (T.na "Keeper" "number") (pv 0) pe_int)
      (pss_one (ps_fd (T.cls "Keeper") (T.na "Keeper" "log") (pv 0) (pe_lst pa_nil)))))))))), ?_⟩
    refine ⟨_, rfl, _, _, _, _, rfl, hc, rfl, _, _, _, rfl, hS, rfl, _, rfl, S, ds, r, DC, DM, PL, QL, t, w0, n, rfl, hS, hcel, ?_⟩
    refine ⟨_, rfl, _, _, _, _, true, rfl, .ty "str", .base (.str _), kit_same _, true, rfl, ?_⟩
    refine ⟨_, rfl, _, _, rfl, .inr (T.upds H), rfl, by rfl, _, rfl, ?_⟩
    rw [inV_strs, hway]
    refine ⟨_, rfl, _, rfl, k, dk, [], _, rfl, hk, rfl, lt_b rfl, ?_⟩
    refine ⟨_, rfl, _, rfl, k, dk, _, _, rfl, upd_same, rfl, lt_b rfl, ?_⟩
    refine ⟨_, rfl, _, rfl, k, dk, _, _, rfl, upd_same, rfl, lt_b rfl, ?_⟩
    refine ⟨_, rfl, k, dk, _, _, rfl, upd_same, rfl, lt_b rfl, ?_⟩
    refine ⟨_, rfl, k, dk, _, _, rfl, upd_same, rfl, lt_b rfl, ?_⟩
    generalize e5 : upd (upd _ k _) k _ = H5
    have k5 : H5 k = some (.ins (He.ga K "Keeper") dk [("guest", .ref c), ("cell", .str "a"), ("way", .str way), ("work", .non), ("number", .int (0 : Int))]) := by
      rw [← e5]
      exact upd_same
    have f5 : Fr [k] H H5 := by
      rw [← e5]
      exact (Fr.upd (.head _)).trans ((Fr.upd (.head _)).trans ((Fr.upd (.head _)).trans ((Fr.upd (.head _)).trans (Fr.upd (.head _)))))
    refine ⟨ll rfl, fun L nL => ⟨_, rfl, k, dk, _, _, rfl, Same.new nL _ _ k5, rfl, lt_b rfl, ?_⟩⟩
    have nLk : L ≠ k := Ne.symm (ne_of_none k5 nL)
    refine kk _ L (f5.trans ((Fr.new nL).trans (Fr.upd (.head _)))) ?_ nLk (by rw [upd_ne nLk]; exact upd_same) upd_same
    cases e : H L with
    | none => rfl
    | some o =>
      have := f5 _ _ e (by simpa using nLk)
      rw [nL] at this
      cases this
def sp_Keeper_held (K : PySem.W.Frag) : Sp := fun vs H Q E => ∃ k dk c way wk n L ws, vs = [.ref k] ∧ H k = some (KeO K dk c way wk n L) ∧ H L = some (.lst (List.map V.str ws)) ∧ ws.length < 1000 ∧ Q (heldV ws) H
theorem sc_Keeper_held : FnScope ["self"] ["self"] (defScope s_Keeper_held) := ⟨rfl, rfl, rfl, by decide +kernel, rfl, by decide +kernel, by decide +kernel⟩
theorem ok_Keeper_held (T : TX w K mg) : FnR P w K mg base CX0 1 (a_Keeper_held K) (sp_Keeper_held K) := by
  obtain ⟨fd, F⟩ := T.fn 36 rfl rfl
  refine fR F sc_Keeper_held (fun _ _ _ _ _ _ us hl => match us, hl with | [_], _ => rfl) (fun vs H Q E h => ?_) (fun cdv A outer s H vs Q E hr h => ?_)
  · obtain ⟨k, dk, c, way, wk, n, L, ws, rfl, hk, hL, hl, kk⟩ := h
    rfl
  · obtain ⟨k, dk, c, way, wk, n, L, ws, rfl, hk, hL, hl, kk⟩ := h
    refine ⟨_, (pss_one (ps_ret (pe_ifExp (pt_cmpR op_gt (pe_callB call_len_seq (by rfl) (T.free "len") (by decide +kernel) (pa_cons (pe_fd (T.cls "Keeper") (T.na "Keeper" "log") (pv 0)) pa_nil)) pe_int (nomark _)) (pe_ix ix_list (pe_fd (T.cls "Keeper") (T.na "Keeper" "log") (pv 0)) (pe_un un_neg pe_int) (fun _ _ => rfl)) pe_non))), ?_⟩
    refine ⟨_, rfl, _, _, _, _, rfl, hk, rfl, _, _, rfl, .inl (.of hL), _, _, rfl, rfl, ?_⟩
    unfold heldV at kk
    cases hg : ws.getLast? with
    | none =>
      have hws : ws = [] := List.getLast?_eq_none_iff.mp hg
      subst hws
      exact ⟨_, rfl, kk⟩
    | some z =>
      rw [hg] at kk
      have hne : 0 < ws.length := List.length_pos_iff.mpr fun e => by rw [e] at hg; cases hg
      refine ⟨true, congrArg V.bl (decide_eq_true (by rw [List.length_map]; omega)), ?_⟩
      exact ⟨_, rfl, _, _, _, _, rfl, hk, rfl, _, rfl, _, _, _, _, rfl, rfl, .of hL, last_at hg, kk⟩
def sp_Keeper_keep (K : PySem.W.Frag) : Sp := fun vs H Q E => ∃ k dk c way wk n L ws D t w0 n1, vs = [.ref k, .ref D] ∧ H k = some (KeO K dk c way wk n L) ∧ H L = some (.lst (List.map V.str ws)) ∧ ws.length < 1000 ∧ H D = some (.dK [(kA, .ref t)]) ∧ H t = some (.tup [.str w0, .int ((n1 : Nat) : Int)]) ∧
  ∀ H', Fr [k, L] H H' → H' L = some (.lst (List.map V.str (ws ++ [w0]))) → H' k = some (KeO K dk c way wk n1 L) → Q .non H'
theorem sc_Keeper_keep : FnScope ["self", "cells", "word", "number"] ["self", "cells"] (defScope s_Keeper_keep) := ⟨rfl, rfl, rfl, by decide +kernel, rfl, by decide +kernel, by decide +kernel⟩
theorem ok_Keeper_keep (T : TX w K mg) : FnR P w K mg base CX0 1 (a_Keeper_keep K) (sp_Keeper_keep K) := by
  obtain ⟨fd, F⟩ := T.fn 38 rfl rfl
  refine fR F sc_Keeper_keep (fun _ _ _ _ _ _ us hl => match us, hl with | [_, _], _ => rfl) (fun vs H Q E h => ?_) (fun cdv A outer s H vs Q E hr h => ?_)
  · obtain ⟨k, dk, c, way, wk, n, L, ws, D, t, w0, n1, rfl, hk, hL, hl, hD, ht, kk⟩ := h
    rfl
  · obtain ⟨k, dk, c, way, wk, n, L, ws, D, t, w0, n1, rfl, hk, hL, hl, hD, ht, kk⟩ := h
    refine ⟨_, (pss_cons (ps_asg (pe_dget (hu_of hr) (pv 1) (pe_fd (T.cls "Keeper") (T.na "Keeper" "cell") (pv 0)) (fun _ _ => rfl)) (pg_tup rfl (pgs_cons (pgn 2 sc_Keeper_keep.nd) (pgs_cons (pgn 3 sc_Keeper_keep.nd) pgs_nil))))
      (pss_cons (ps_expr (pe_bm PySem.F.plainAttrs_list PySem.F.slot_list_append PySem.F.type_list_append mt_append (pe_fd (T.cls "Keeper") (T.na "Keeper" "log") (pv 0)) (pa_cons (pv 2) pa_nil)))
      (pss_one (ps_fd (T.cls "Keeper") (T.na "Keeper" "number") (pv 0) (pv 3))))), ?_⟩
    have nLk : L ≠ k := ne_of hL hk fun z => nomatch z
    refine ⟨_, rfl, _, rfl, _, _, _, _, rfl, hk, rfl, D, _, rfl, DGet.k (k := kA) hD, ?_⟩
    refine ⟨t, _, rfl, .of ht, rfl, _, _, rfl, _, _, rfl, rfl, ?_⟩
    refine ⟨_, rfl, _, _, _, _, rfl, hk, rfl, .inl ⟨rfl, _, .of hL⟩, _, rfl, L, _, _, rfl, rfl, hL, by rw [List.length_map, line_eq]; omega, ?_⟩
    refine ⟨_, rfl, _, rfl, k, dk, _, _, rfl, (upd_ne (Ne.symm nLk)).trans hk, rfl, lt_b rfl, ?_⟩
    refine kk _ ((Fr.upd (by simp)).trans (Fr.upd (by simp))) ?_ upd_same
    rw [upd_ne nLk, upd_same, List.map_append]
    rfl
    
end
end CN
end
section
set_option Elab.async false
set_option linter.all false
set_option maxRecDepth 100000
set_option maxHeartbeats 4000000
namespace CN
open PySem PySem.Spec PyProof.Rows L2
local macro_rules | `(tactic| trivial) => `(tactic| exact Led.get (by assumption) 9)
local macro_rules | `(tactic| trivial) => `(tactic| exact Led.get (by assumption) 8)
local macro_rules | `(tactic| trivial) => `(tactic| exact Led.get (by assumption) 7)
local macro_rules | `(tactic| trivial) => `(tactic| exact Led.get (by assumption) 6)
local macro_rules | `(tactic| trivial) => `(tactic| exact Led.get (by assumption) 5)
local macro_rules | `(tactic| trivial) => `(tactic| exact Led.get (by assumption) 4)
local macro_rules | `(tactic| trivial) => `(tactic| exact Led.get (by assumption) 3)
local macro_rules | `(tactic| trivial) => `(tactic| exact Led.get (by assumption) 2)
local macro_rules | `(tactic| trivial) => `(tactic| exact Led.get (by assumption) 1)
local macro_rules | `(tactic| trivial) => `(tactic| exact Led.get (by assumption) 0)
section
variable {P : Program} {w : World} {K : PySem.W.Frag} {mg : Str → Option Value} {base : Heap} [POk P]
def updOne (way : Str) (s : List Str × Nat) (q : Nat × Str) : List Str × Nat := if way = "take" ∨ s.2 ≤ q.1 then (s.1 ++ [q.2], q.1) else s
theorem upd_len (way : Str) : ∀ (que : List (Nat × Str)) (s : List Str × Nat), (que.foldl (updOne way) s).1.length ≤ s.1.length + que.length
  | [], s => Nat.le_refl _
  | q :: r, s => by
    rw [List.foldl_cons]
    have h1 := upd_len way r (updOne way s q)
    have h2 : (updOne way s q).1.length ≤ s.1.length + 1 := by
      unfold updOne
      split
      · rw [List.length_append]
        exact Nat.le_refl _
      · omega
    rw [List.length_cons]
    omega
def updAll (way : Str) (cell : Str × Nat) (s : List Str × Nat) (que : List (Nat × Str)) : List Str × Nat :=
  if way = "reread" then (if que = [] then s else (s.1 ++ [cell.1], cell.2)) else que.foldl (updOne way) s
def sp_Keeper_update (K : PySem.W.Frag) : Sp := fun vs H Q E => ∃ k dk c way wk n L ws A qs que dc S nm wk2 st po ds r DC DM PL QL t w0 n1, vs = [.ref k, .ref A] ∧ H k = some (KeO K dk c way wk n L) ∧ H L = some (.lst (List.map V.str ws)) ∧ ws.length < 800 ∧ H A = some (.lst qs) ∧ Paired (QuT K H) qs que ∧ que.length ≤ 100 ∧ A ≠ L ∧
  H c = some (ClO K dc S nm wk2 st po) ∧ H S = some (StO K ds r DC DM PL QL) ∧ CelT H DC t w0 n1 ∧
  ∀ H', Fr [k, L] H H' → H' L = some (.lst (List.map V.str (updAll way (w0, n1) (ws, n) que).1)) → H' k = some (KeO K dk c way wk (updAll way (w0, n1) (ws, n) que).2 L) → Q .non H'
theorem sc_Keeper_update : FnScope ["self", "some", "number", "notice"] ["self", "some"] (defScope s_Keeper_update) := ⟨rfl, rfl, rfl, by decide +kernel, rfl, by decide +kernel, by decide +kernel⟩
theorem ok_Keeper_update (T : TX w K mg) : FnR P w K mg base CX0 2 (a_Keeper_update K) (sp_Keeper_update K) := by
  obtain ⟨fd, F⟩ := T.fn 41 rfl rfl
  refine fR F sc_Keeper_update (fun _ _ _ _ _ _ us hl => match us, hl with | [_, _], _ => rfl) (fun vs H Q E h => ?_) (fun cdv A outer s H vs Q E hr h => ?_)
  · obtain ⟨k, dk, c, way, wk, n, L, ws, A, qs, que, dc, S, nm, wk2, st, po, ds, r, DC, DM, PL, QL, t, w0, n1, rfl, hk, hL, hl, hA, hP, hlq, nAL, hc, hS, ⟨hD, ht⟩, kk⟩ := h
    rfl
  · obtain ⟨k, dk, c, way, wk, n, L, ws, A, qs, que, dc, S, nm, wk2, st, po, ds, r, DC, DM, PL, QL, t, w0, n1, rfl, hk, hL, hl, hA, hP, hlq, nAL, hc, hS, ⟨hD, ht⟩, kk⟩ := h
    refine ⟨_, (pss_cons (ps_if (pt_cmpR op_eq (pe_fd (T.cls "Keeper") (T.na "Keeper" "way") (pv 0)) pe_str (nomark _))
        (pss_cons (ps_if (pt_cmpR op_gt (pe_callB call_len_seq (by rfl) (T.free "len") (by decide +kernel) (pa_cons (pv 1) pa_nil)) pe_int (nomark _))
          (pss_one (ps_expr (pe_me (pv 0) (T.cls "Keeper") (T.me "Keeper" "keep") (ok_Keeper_keep (P := P) T) (hr.mono (by decide)) (pa_cons (pe_fd (T.cls "Store") (T.na "Store" "cells") (pe_fd (T.cls "Client") (T.na "Client" "store") (pe_fd (T.cls "Keeper") (T.na "Keeper" "guest") (pv 0)))) pa_nil))))
          pss_nil)
        (pss_one ps_retN))
        pss_nil)
      (pss_one (ps_for PassesOwn.never rfl (pi_list (pv 1)) (pg_tup rfl (pgs_cons (pgn 2 sc_Keeper_update.nd) (pgs_cons (pgn 3 sc_Keeper_update.nd) pgs_nil)))
        (pss_one (ps_if (PW.pt (pw_or (pt_cmpR op_eq (pe_fd (T.cls "Keeper") (T.na "Keeper" "way") (pv 0)) pe_str (nomark _)) (pw_or1 (pt_cmpR op_ge (pv 2) (pe_fd (T.cls "Keeper") (T.na "Keeper" "number") (pv 0)) (nomark _)))))
          (pss_cons (ps_expr (pe_bm PySem.F.plainAttrs_list PySem.F.slot_list_append PySem.F.type_list_append mt_append (pe_fd (T.cls "Keeper") (T.na "Keeper" "log") (pv 0)) (pa_cons (pe_fd (T.cls "Notice") (T.na "Notice" "word") (pv 3)) pa_nil)))
          (pss_one (ps_fd (T.cls "Keeper") (T.na "Keeper" "number") (pv 0) (pv 2))))
          pss_nil))))), ?_⟩
    have hlen : qs.length = que.length := Paired.length hP
    have nLk : L ≠ k := ne_of hL hk fun z => nomatch z
    refine ⟨_, rfl, _, _, _, _, rfl, hk, rfl, rfl, _, rfl, ?_⟩
    by_cases hw : way = "reread"
    · rw [show decide (V.str way = V.str "reread") = true from sT hw]
      refine ⟨_, rfl, _, _, rfl, .inl (.of hA), _, _, rfl, rfl, ?_⟩
      refine ⟨decide (0 < qs.length), ?_, ?_⟩
      · exact congrArg V.bl (decide_eq_decide.mpr (by omega))
      by_cases hq : que = []
      · have : qs.length = 0 := by rw [hlen, hq]; rfl
        rw [show decide (0 < qs.length) = false from decide_eq_false (by omega)]
        have e := kk H (fun _ _ e _ => e)
        unfold updAll at e
        rw [if_pos hw, if_pos hq] at e
        exact e hL hk
      · have h0 : 0 < que.length := List.length_pos_iff.mpr hq
        rw [show decide (0 < qs.length) = true from decide_eq_true (by omega)]
        refine ⟨_, rfl, _, _, _, rfl, hk, rfl, _, rfl, _, _, _, _, rfl, hk, rfl, _, _, _, _, rfl, hc, rfl, _, _, _, _, rfl, hS, rfl, k, dk, c, way, wk, n, L, ws, DC, t, w0, n1, rfl, hk, hL, by omega, hD, ht, fun H' f e1 e2 => ?_⟩
        have e := kk H' f
        unfold updAll at e
        rw [if_pos hw, if_neg hq] at e
        exact e e1 e2
    · rw [show decide (V.str way = V.str "reread") = false from sF hw]
      refine ⟨_, rfl, A, rfl, ⟨_, .of hA⟩, for_it (walk_list (xs := qs)) (fun i σ H' => (∃ u2 u3, σ = [some (.ref k), some (.ref A), u2, u3]) ∧ Fr [k, L] H H' ∧ H' L = some (.lst (List.map V.str ((que.take i).foldl (updOne way) (ws, n)).1)) ∧ H' k = some (KeO K dk c way wk ((que.take i).foldl (updOne way) (ws, n)).2 L)) ?_ ?_ ?_ ?_⟩
      · exact ⟨⟨_, _, rfl⟩, fun _ _ e _ => e, hL, hk⟩
      · rintro i σ H' _ ⟨_, f, _⟩
        exact .of (f _ _ hA (by simp [nAL, ne_of hA hk (fun z => nomatch z)]))
      · rintro i x σ _ H2 hi ⟨⟨u2, u3, rfl⟩, f, e1, e2⟩ ⟨rfl, hx⟩
        have hi2 : i < que.length := by omega
        have hqi : que[i]? = some que[i] := List.getElem?_eq_getElem hi2
        obtain ⟨v, ev, a, nn, dn, rfl, ha, hn⟩ := Paired.at hP hqi
        cases ev.symm.trans hx
        have ul : ((que.take i).foldl (updOne way) (ws, n)).1.length ≤ ws.length + (que.take i).length := upd_len way (que.take i) (ws, n)
        have tl : (que.take i).length ≤ que.length := by rw [List.length_take]; exact Nat.min_le_right _ _
        rw [take_at hqi]
        generalize que[i] = q at ha hn hqi
        simp only [List.foldl_append, List.foldl_cons, List.foldl_nil]
        generalize (que.take i).foldl (updOne way) (ws, n) = sN at e1 e2 ul
        have ha2 := f _ _ ha (by simp [ne_of ha hk (fun z => nomatch z), ne_of ha hL (fun z => nomatch z)])
        have hn2 := f _ _ hn (by simp [ne_of hn hk (fun z => by injection z with _ _ h; cases h), ne_of hn hL (fun z => nomatch z)])
        refine ⟨a, _, rfl, .of ha2, rfl, _, _, rfl, _, _, rfl, rfl, ?_⟩
        refine ⟨_, rfl, _, _, _, _, rfl, e2, rfl, rfl, _, rfl, ?_⟩
        by_cases hd : way = "take"
        · rw [show decide (V.str way = V.str "take") = true from sT hd]
          have hor : way = "take" ∨ sN.2 ≤ q.1 := .inl hd
          refine ⟨_, rfl, _, _, _, _, rfl, e2, rfl, .inl ⟨rfl, _, .of e1⟩, _, rfl, _, _, _, _, rfl, hn2, rfl, L, _, _, rfl, rfl, e1, by rw [List.length_map, line_eq]; omega, ?_⟩
          refine ⟨_, rfl, _, rfl, k, dk, _, _, rfl, (upd_ne (Ne.symm nLk)).trans e2, rfl, lt_b rfl, ?_⟩
          refine ⟨⟨_, _, rfl⟩, f.trans ((Fr.upd (by simp)).trans (Fr.upd (by simp))), ?_, ?_⟩
          · rw [upd_ne nLk, upd_same]
            unfold updOne
            rw [if_pos hor, List.map_append]
            rfl
          · rw [upd_same]
            unfold updOne
            rw [if_pos hor]
            rfl
        · rw [show decide (V.str way = V.str "take") = false from sF hd]
          refine ⟨_, rfl, _, rfl, _, _, _, _, rfl, e2, rfl, _, _, rfl, rfl, decide (sN.2 ≤ q.1), congrArg V.bl (decide_eq_decide.mpr (by omega)), ?_⟩
          by_cases hle : sN.2 ≤ q.1
          · rw [show decide (sN.2 ≤ q.1) = true from decide_eq_true hle]
            have hor : way = "take" ∨ sN.2 ≤ q.1 := .inr hle
            refine ⟨_, rfl, _, _, _, _, rfl, e2, rfl, .inl ⟨rfl, _, .of e1⟩, _, rfl, _, _, _, _, rfl, hn2, rfl, L, _, _, rfl, rfl, e1, by rw [List.length_map, line_eq]; omega, ?_⟩
            refine ⟨_, rfl, _, rfl, k, dk, _, _, rfl, (upd_ne (Ne.symm nLk)).trans e2, rfl, lt_b rfl, ?_⟩
            refine ⟨⟨_, _, rfl⟩, f.trans ((Fr.upd (by simp)).trans (Fr.upd (by simp))), ?_, ?_⟩
            · rw [upd_ne nLk, upd_same]
              unfold updOne
              rw [if_pos hor, List.map_append]
              rfl
            · rw [upd_same]
              unfold updOne
              rw [if_pos hor]
              rfl
          · rw [show decide (sN.2 ≤ q.1) = false from decide_eq_false hle]
            have hor : ¬ (way = "take" ∨ sN.2 ≤ q.1) := fun h => h.elim hd hle
            have eu : updOne way sN q = sN := by
              unfold updOne
              rw [if_neg hor]
            rw [eu]
            exact ⟨⟨_, _, rfl⟩, f, e1, e2⟩
      · rintro σ H2 ⟨⟨u2, u3, rfl⟩, f, e1, e2⟩
        rw [hlen, List.take_length] at e1 e2
        have e := kk H2 f
        unfold updAll at e
        rw [if_neg hw] at e
        exact e e1 e2
    
end
end CN
end
section
set_option Elab.async false
set_option linter.all false
set_option maxRecDepth 100000
set_option maxHeartbeats 4000000
namespace CN
open PySem PySem.Spec PyProof.Rows L2
local macro_rules | `(tactic| trivial) => `(tactic| exact Led.get (by assumption) 9)
local macro_rules | `(tactic| trivial) => `(tactic| exact Led.get (by assumption) 8)
local macro_rules | `(tactic| trivial) => `(tactic| exact Led.get (by assumption) 7)
local macro_rules | `(tactic| trivial) => `(tactic| exact Led.get (by assumption) 6)
local macro_rules | `(tactic| trivial) => `(tactic| exact Led.get (by assumption) 5)
local macro_rules | `(tactic| trivial) => `(tactic| exact Led.get (by assumption) 4)
local macro_rules | `(tactic| trivial) => `(tactic| exact Led.get (by assumption) 3)
local macro_rules | `(tactic| trivial) => `(tactic| exact Led.get (by assumption) 2)
local macro_rules | `(tactic| trivial) => `(tactic| exact Led.get (by assumption) 1)
local macro_rules | `(tactic| trivial) => `(tactic| exact Led.get (by assumption) 0)
section
variable {P : Program} {w : World} {K : PySem.W.Frag} {mg : Str → Option Value} {base : Heap} [POk P]
/-! ### the world of one walk -/
structure Ad where
  (S ds DC DM PL QL c dc b db k dk L : Addr)
  (r way : Str)
  B : Hp
structure Txn where
  (tx dx sn ro mar tS : Addr)
  (bg xn : Nat)
  xw : Str
  rs : List V
  stps : List Stp
structure Ab where
  (t st sb : Addr)
  w0 : Str
  (cn kn : Nat)
  (qs past : List V)
  que : List (Nat × Str)
  (sl po : Option Nat)
  ws : List Str
  wk : Option Txn
def wkV : Option Txn → V
  | none => .non
  | some x => .ref x.tx
structure TxOk (K : PySem.W.Frag) (A : Ad) (H : Hp) (x : Txn) : Prop where
  tx : H x.tx = some (TxO K x.dx A.S A.c x.sn ((x.bg : Nat) : Int) x.ro x.mar true)
  sn : H x.sn = some (.dK [(kA, .ref x.tS)])
  tS : H x.tS = some (.tup [.str x.xw, .int ((x.xn : Nat) : Int)])
  ro : H x.ro = some (.lst x.rs)
  rows : Paired (RoT K H) x.rs x.stps
  ls : x.ro ≠ A.PL ∧ x.ro ≠ A.QL ∧ x.ro ≠ A.L
  dk : x.sn ≠ A.DC ∧ x.sn ≠ A.DM
  nb : A.B x.tx = none ∧ A.B x.ro = none
theorem Same.frB {B H H' : Hp} {fp : List Addr} (s : Same B H) (f : Fr fp H H') (n : ∀ q ∈ fp, B q = none) : Same B H' := fun b o e => f b o (s b o e) fun hb => by
  rw [n b hb] at e
  cases e
structure WOk (K : PySem.W.Frag) (A : Ad) (H : Hp) (a : Ab) : Prop where
  S : H A.S = some (StO K A.ds A.r A.DC A.DM A.PL A.QL)
  ru : lRULES.contains A.r = true
  up : lUPDATES.contains A.way = true
  DC : H A.DC = some (.dK [(kA, .ref a.t)])
  t : H a.t = some (.tup [.str a.w0, .int ((a.cn : Nat) : Int)])
  DM : H A.DM = some (.dK [(.inr "ann", .ref A.c), (.inr "bob", .ref A.b)])
  PL : H A.PL = some (.lst a.past)
  QL : H A.QL = some (.lst a.qs)
  que : Paired (QuT K H) a.qs a.que
  c : H A.c = some (ClO K A.dc A.S "ann" (wkV a.wk) a.st (pV a.po))
  st : H a.st = some (.dK (sV a.sl))
  b : H A.b = some (ClO K A.db A.S "bob" .non a.sb .non)
  sb : H a.sb = some (.dK [])
  k : H A.k = some (KeO K A.dk A.c A.way (wkV a.wk) a.kn A.L)
  L : H A.L = some (.lst (List.map V.str a.ws))
  tx : ∀ x, a.wk = some x → TxOk K A H x
  ls : A.PL ≠ A.QL ∧ A.PL ≠ A.L ∧ A.QL ≠ A.L
  dk : A.DC ≠ A.DM ∧ a.st ≠ A.DC ∧ a.st ≠ A.DM ∧ a.sb ≠ A.DC ∧ a.sb ≠ A.DM ∧ a.st ≠ a.sb
  cb : A.c ≠ A.b
  bs : Same A.B H
  bn : A.B A.c = none ∧ A.B A.b = none ∧ A.B A.k = none ∧ A.B A.DC = none ∧ A.B A.PL = none ∧ A.B A.QL = none ∧ A.B A.L = none
theorem RoT.same {K : PySem.W.Frag} {H H' : Hp} (s : Same H H') {v : V} {x : Stp} : RoT K H v x → RoT K H' v x := fun ⟨t, row, e, h1, h2⟩ => by
  refine ⟨t, row, e, s _ _ h1, ?_⟩
  cases x with
  | say z =>
    obtain ⟨n, dn, e1, e2⟩ := h2
    exact ⟨n, dn, e1, s _ _ e2⟩
  | set _ => exact h2
  | lis => exact h2
  | unl => exact h2
theorem TxOk.same {K : PySem.W.Frag} {A : Ad} {H H' : Hp} {x : Txn} (s : Same H H') (h : TxOk K A H x) : TxOk K A H' x :=
  ⟨s _ _ h.tx, s _ _ h.sn, s _ _ h.tS, s _ _ h.ro, Paired.mapP h.rows fun _ _ q => q.same s, h.ls, h.dk, h.nb⟩
theorem WOk.same {K : PySem.W.Frag} {A : Ad} {H H' : Hp} {a : Ab} (s : Same H H') (h : WOk K A H a) : WOk K A H' a :=
  { S := s _ _ h.S, ru := h.ru, up := h.up, DC := s _ _ h.DC, t := s _ _ h.t, DM := s _ _ h.DM, PL := s _ _ h.PL, QL := s _ _ h.QL, que := Paired.mapP h.que fun _ _ q => q.same s,
    c := s _ _ h.c, st := s _ _ h.st, b := s _ _ h.b, sb := s _ _ h.sb, k := s _ _ h.k, L := s _ _ h.L, tx := fun x e => (h.tx x e).same s, ls := h.ls, dk := h.dk, cb := h.cb, bs := Same.trans h.bs s, bn := h.bn }
/-- a number for the kind of an object: objects of other kinds stand elsewhere -/
def kd : HO → Nat
  | .lst _ => 1
  | .dK _ => 2
  | .tup _ => 3
  | .ins _ _ fs => (10 * fs.length) + (match fs with
    | (n, _) :: _ => if n = "guest" then 1 else 0
    | [] => 0)
  | _ => 0
theorem nk {H : Hp} {q x : Addr} {u o : HO} (h1 : H x = some o) (h2 : H q = some u) (e : Nat.beq (kd o) (kd u) = false := by rfl) : x ≠ q := ne_of h1 h2 fun z => by
  rw [z, Nat.beq_refl] at e
  cases e
theorem fr1 {H H' : Hp} {x q : Addr} {o : HO} (f : Fr [q] H H') (h : H x = some o) (n : x ≠ q) : H' x = some o := f _ _ h (by simpa using n)
theorem fr2 {H H' : Hp} {x q p : Addr} {o : HO} (f : Fr [q, p] H H') (h : H x = some o) (n : x ≠ q) (m : x ≠ p) : H' x = some o := f _ _ h (by simp [n, m])
theorem fr4 {H H' : Hp} {x q p r s : Addr} {o : HO} (f : Fr [q, p, r, s] H H') (h : H x = some o) (n : x ≠ q) (m : x ≠ p) (i : x ≠ r) (j : x ≠ s) : H' x = some o := f _ _ h (by simp [n, m, i, j])
theorem fr5 {H H' : Hp} {x q p r s t : Addr} {o : HO} (f : Fr [q, p, r, s, t] H H') (h : H x = some o) (n : x ≠ q) (m : x ≠ p) (i : x ≠ r) (j : x ≠ s) (l : x ≠ t) : H' x = some o := f _ _ h (by simp [n, m, i, j, l])
example {K : PySem.W.Frag} {A : Ad} {H : Hp} {a : Ab} (h : WOk K A H a) : A.S ≠ A.k := nk h.S h.k
example {K : PySem.W.Frag} {A : Ad} {H : Hp} {a : Ab} (h : WOk K A H a) : A.S ≠ A.c := nk h.S h.c
/-- the keeper's own fields and log: keep, update -/
theorem WOk.log {K : PySem.W.Frag} {A : Ad} {H H' : Hp} {a : Ab} (h : WOk K A H a) (f : Fr [A.k, A.L] H H') {ws : List Str} {kn : Nat} (eL : H' A.L = some (.lst (List.map V.str ws))) (ek : H' A.k = some (KeO K A.dk A.c A.way (wkV a.wk) kn A.L)) :
    WOk K A H' { a with ws := ws, kn := kn } :=
  { S := fr2 f h.S (nk h.S h.k) (nk h.S h.L), ru := h.ru, up := h.up, DC := fr2 f h.DC (nk h.DC h.k) (nk h.DC h.L), t := fr2 f h.t (nk h.t h.k) (nk h.t h.L), DM := fr2 f h.DM (nk h.DM h.k) (nk h.DM h.L),
    PL := fr2 f h.PL (nk h.PL h.k) h.ls.2.1, QL := fr2 f h.QL (nk h.QL h.k) h.ls.2.2,
    que := Paired.mapP h.que fun _ _ ⟨x, n, dn, e, h1, h2⟩ => ⟨x, n, dn, e, fr2 f h1 (nk h1 h.k) (nk h1 h.L), fr2 f h2 (nk h2 h.k) (nk h2 h.L)⟩,
    c := fr2 f h.c (nk h.c h.k) (nk h.c h.L), st := fr2 f h.st (nk h.st h.k) (nk h.st h.L), b := fr2 f h.b (nk h.b h.k) (nk h.b h.L), sb := fr2 f h.sb (nk h.sb h.k) (nk h.sb h.L), k := ek, L := eL,
    tx := fun x e => let t := h.tx x e
      { tx := fr2 f t.tx (nk t.tx h.k) (nk t.tx h.L), sn := fr2 f t.sn (nk t.sn h.k) (nk t.sn h.L), tS := fr2 f t.tS (nk t.tS h.k) (nk t.tS h.L), ro := fr2 f t.ro (nk t.ro h.k) t.ls.2.2,
        rows := Paired.mapP t.rows fun _ y ⟨p, row, e1, h1, h2⟩ => ⟨p, row, e1, fr2 f h1 (nk h1 h.k) (nk h1 h.L), by
          cases y with
          | say z =>
            obtain ⟨n, dn, e2, h3⟩ := h2
            exact ⟨n, dn, e2, fr2 f h3 (nk h3 h.k) (nk h3 h.L)⟩
          | set _ => exact h2
          | lis => exact h2
          | unl => exact h2⟩, ls := t.ls, dk := t.dk, nb := t.nb },
    ls := h.ls, dk := h.dk, cb := h.cb, bs := Same.frB h.bs f (by simp [h.bn]), bn := h.bn }
/-- tuples and notices don't stand among the written ones -/
def Mu (H : Hp) (fp : List Addr) : Prop := ∀ q ∈ fp, ∃ u, H q = some u ∧ Nat.beq 3 (kd u) = false ∧ Nat.beq 20 (kd u) = false
theorem Mu.nil {H : Hp} : Mu H [] := fun _ h => nomatch h
theorem Mu.cons {H : Hp} {q : Addr} {fp : List Addr} {u : HO} (h : H q = some u) (m : Mu H fp) (e1 : Nat.beq 3 (kd u) = false := by rfl) (e2 : Nat.beq 20 (kd u) = false := by rfl) : Mu H (q :: fp) := fun p hp => by
  rcases List.mem_cons.mp hp with rfl | hp
  · exact ⟨u, h, e1, e2⟩
  · exact m p hp
theorem Mu.tup {H H' : Hp} {fp : List Addr} (m : Mu H fp) (f : Fr fp H H') {x : Addr} {xs : List V} (h : H x = some (.tup xs)) : H' x = some (.tup xs) := f _ _ h fun hx => by
  obtain ⟨u, e, e1, _⟩ := m x hx
  rw [h] at e
  cases e
  cases e1
theorem Mu.note {H H' : Hp} {fp : List Addr} (m : Mu H fp) (f : Fr fp H H') {x : Addr} {C dn : Addr} {z : Str} (h : H x = some (.ins C dn (NoteF "a" z))) : H' x = some (.ins C dn (NoteF "a" z)) := f _ _ h fun hx => by
  obtain ⟨u, e, _, e2⟩ := m x hx
  rw [h] at e
  cases e
  cases e2
theorem QuT.mu {K : PySem.W.Frag} {H H' : Hp} {fp : List Addr} (m : Mu H fp) (f : Fr fp H H') {v : V} {e : Nat × Str} : QuT K H v e → QuT K H' v e := fun ⟨a, n, dn, e, h1, h2⟩ => ⟨a, n, dn, e, m.tup f h1, m.note f h2⟩
theorem RoT.mu {K : PySem.W.Frag} {H H' : Hp} {fp : List Addr} (m : Mu H fp) (f : Fr fp H H') {v : V} {x : Stp} : RoT K H v x → RoT K H' v x := fun ⟨t, row, e, h1, h2⟩ => by
  refine ⟨t, row, e, m.tup f h1, ?_⟩
  cases x with
  | say z =>
    obtain ⟨n, dn, e1, e2⟩ := h2
    exact ⟨n, dn, e1, m.note f e2⟩
  | set _ => exact h2
  | lis => exact h2
  | unl => exact h2
theorem TxOk.mu {K : PySem.W.Frag} {A : Ad} {H H' : Hp} {x : Txn} {fp : List Addr} (h : TxOk K A H x) (m : Mu H fp) (f : Fr fp H H') (n1 : x.tx ∉ fp) (n2 : x.sn ∉ fp) (n3 : x.ro ∉ fp) : TxOk K A H' x :=
  ⟨f _ _ h.tx n1, f _ _ h.sn n2, m.tup f h.tS, f _ _ h.ro n3, Paired.mapP h.rows fun _ _ q => q.mu m f, h.ls, h.dk, h.nb⟩

end
end CN
end
section
set_option Elab.async false
set_option linter.all false
set_option maxRecDepth 100000
set_option maxHeartbeats 4000000
namespace CN
open PySem PySem.Spec PyProof.Rows L2
local macro_rules | `(tactic| trivial) => `(tactic| exact Led.get (by assumption) 9)
local macro_rules | `(tactic| trivial) => `(tactic| exact Led.get (by assumption) 8)
local macro_rules | `(tactic| trivial) => `(tactic| exact Led.get (by assumption) 7)
local macro_rules | `(tactic| trivial) => `(tactic| exact Led.get (by assumption) 6)
local macro_rules | `(tactic| trivial) => `(tactic| exact Led.get (by assumption) 5)
local macro_rules | `(tactic| trivial) => `(tactic| exact Led.get (by assumption) 4)
local macro_rules | `(tactic| trivial) => `(tactic| exact Led.get (by assumption) 3)
local macro_rules | `(tactic| trivial) => `(tactic| exact Led.get (by assumption) 2)
local macro_rules | `(tactic| trivial) => `(tactic| exact Led.get (by assumption) 1)
local macro_rules | `(tactic| trivial) => `(tactic| exact Led.get (by assumption) 0)
section
variable {P : Program} {w : World} {K : PySem.W.Frag} {mg : Str → Option Value} {base : Heap} [POk P]
section
variable {A : Ad} {H H' : Hp} {a : Ab}
theorem WOk.ck (h : WOk K A H a) : A.c ≠ A.k := nk h.c h.k
theorem WOk.mck (h : WOk K A H a) : Mu H [A.c, A.k] := .cons h.c (.cons h.k .nil)
/-- her work begins -/
theorem WOk.begun (h : WOk K A H a) (f : Fr [A.c, A.k] H H') {x : Txn} (ec : H' A.c = some (ClO K A.dc A.S "ann" (.ref x.tx) a.st (pV a.po))) (ek : H' A.k = some (KeO K A.dk A.c A.way (.ref x.tx) a.kn A.L)) (t : TxOk K A H' x) :
    WOk K A H' { a with wk := some x } :=
  { S := fr2 f h.S (nk h.S h.c) (nk h.S h.k), ru := h.ru, up := h.up, DC := fr2 f h.DC (nk h.DC h.c) (nk h.DC h.k), t := h.mck.tup f h.t, DM := fr2 f h.DM (nk h.DM h.c) (nk h.DM h.k),
    PL := fr2 f h.PL (nk h.PL h.c) (nk h.PL h.k), QL := fr2 f h.QL (nk h.QL h.c) (nk h.QL h.k), que := Paired.mapP h.que fun _ _ q => q.mu h.mck f, c := ec, st := fr2 f h.st (nk h.st h.c) (nk h.st h.k),
    b := fr2 f h.b (Ne.symm h.cb) (nk h.b h.k), sb := fr2 f h.sb (nk h.sb h.c) (nk h.sb h.k), k := ek, L := fr2 f h.L (nk h.L h.c) (nk h.L h.k), tx := (fun y e => by cases e; exact t), ls := h.ls, dk := h.dk, cb := h.cb, bs := Same.frB h.bs f (by simp [h.bn]), bn := h.bn }
/-- her work ends with nothing done -/
theorem WOk.dropped (h : WOk K A H a) {x : Txn} (hx : a.wk = some x) (f : Fr [x.tx, A.c, A.k] H H') (ec : H' A.c = some (ClO K A.dc A.S "ann" .non a.st (pV a.po))) (ek : H' A.k = some (KeO K A.dk A.c A.way .non a.kn A.L)) :
    WOk K A H' { a with wk := none } :=
  have t := h.tx x hx
  have m : Mu H [x.tx, A.c, A.k] := .cons t.tx h.mck
  have f3 : ∀ {y : Addr} {o : HO}, H y = some o → y ≠ x.tx → y ≠ A.c → y ≠ A.k → H' y = some o := fun e n1 n2 n3 => f _ _ e (by simp [n1, n2, n3])
  { S := f3 h.S (nk h.S t.tx) (nk h.S h.c) (nk h.S h.k), ru := h.ru, up := h.up, DC := f3 h.DC (nk h.DC t.tx) (nk h.DC h.c) (nk h.DC h.k), t := m.tup f h.t, DM := f3 h.DM (nk h.DM t.tx) (nk h.DM h.c) (nk h.DM h.k),
    PL := f3 h.PL (nk h.PL t.tx) (nk h.PL h.c) (nk h.PL h.k), QL := f3 h.QL (nk h.QL t.tx) (nk h.QL h.c) (nk h.QL h.k), que := Paired.mapP h.que fun _ _ q => q.mu m f, c := ec, st := f3 h.st (nk h.st t.tx) (nk h.st h.c) (nk h.st h.k),
    b := f3 h.b (nk h.b t.tx) (Ne.symm h.cb) (nk h.b h.k), sb := f3 h.sb (nk h.sb t.tx) (nk h.sb h.c) (nk h.sb h.k), k := ek, L := f3 h.L (nk h.L t.tx) (nk h.L h.c) (nk h.L h.k), tx := (fun y e => nomatch e), ls := h.ls, dk := h.dk, cb := h.cb, bs := Same.frB h.bs f (by simp [h.bn, t.nb]), bn := h.bn }
/-- a row of her work -/
theorem WOk.rowed (h : WOk K A H a) {x : Txn} (hx : a.wk = some x) (f : Fr [x.ro] H H') {v : V} {s : Stp} (er : H' x.ro = some (.lst (x.rs ++ [v]))) (ev : RoT K H' v s) : WOk K A H' { a with wk := some { x with rs := x.rs ++ [v], stps := x.stps ++ [s] } } :=
  have t := h.tx x hx
  have m : Mu H [x.ro] := .cons t.ro .nil
  { S := fr1 f h.S (nk h.S t.ro), ru := h.ru, up := h.up, DC := fr1 f h.DC (nk h.DC t.ro), t := m.tup f h.t, DM := fr1 f h.DM (nk h.DM t.ro),
    PL := fr1 f h.PL (Ne.symm t.ls.1), QL := fr1 f h.QL (Ne.symm t.ls.2.1), que := Paired.mapP h.que fun _ _ q => q.mu m f, c := (by have e := fr1 f h.c (nk h.c t.ro); rw [hx] at e; exact e), st := fr1 f h.st (nk h.st t.ro),
    b := fr1 f h.b (nk h.b t.ro), sb := fr1 f h.sb (nk h.sb t.ro), k := (by have e := fr1 f h.k (nk h.k t.ro); rw [hx] at e; exact e), L := fr1 f h.L (Ne.symm t.ls.2.2),
    tx := fun y e => by
      cases e
      exact ⟨fr1 f t.tx (nk t.tx t.ro), fr1 f t.sn (nk t.sn t.ro), m.tup f t.tS, er, Paired.snoc (Paired.mapP t.rows fun _ _ q => q.mu m f) ev, t.ls, t.dk, t.nb⟩,
    ls := h.ls, dk := h.dk, cb := h.cb, bs := Same.frB h.bs f (by simp [t.nb]), bn := h.bn }
end

end
end CN
end
section
set_option Elab.async false
set_option linter.all false
set_option maxRecDepth 100000
set_option maxHeartbeats 4000000
namespace CN
open PySem PySem.Spec PyProof.Rows L2
local macro_rules | `(tactic| trivial) => `(tactic| exact Led.get (by assumption) 9)
local macro_rules | `(tactic| trivial) => `(tactic| exact Led.get (by assumption) 8)
local macro_rules | `(tactic| trivial) => `(tactic| exact Led.get (by assumption) 7)
local macro_rules | `(tactic| trivial) => `(tactic| exact Led.get (by assumption) 6)
local macro_rules | `(tactic| trivial) => `(tactic| exact Led.get (by assumption) 5)
local macro_rules | `(tactic| trivial) => `(tactic| exact Led.get (by assumption) 4)
local macro_rules | `(tactic| trivial) => `(tactic| exact Led.get (by assumption) 3)
local macro_rules | `(tactic| trivial) => `(tactic| exact Led.get (by assumption) 2)
local macro_rules | `(tactic| trivial) => `(tactic| exact Led.get (by assumption) 1)
local macro_rules | `(tactic| trivial) => `(tactic| exact Led.get (by assumption) 0)
section
variable {P : Program} {w : World} {K : PySem.W.Frag} {mg : Str → Option Value} {base : Heap} [POk P]
section
variable {A : Ad} {H H' : Hp} {a : Ab}
theorem paired_app {α β : Type} {R : α → β → Prop} {as as2 : List α} {bs bs2 : List β} (h1 : Paired R as bs) (h2 : Paired R as2 bs2) : Paired R (as ++ as2) (bs ++ bs2) := by
  induction h1 with
  | nil => exact h2
  | cons r _ ih => exact .cons r ih
theorem Fr.mem4 {H H' : Hp} {q p r s x : Addr} {o : HO} (f : Fr [q, p, r, s] H H') (h : H x = some o) (n : x ≠ q ∧ x ≠ p ∧ x ≠ r ∧ x ≠ s) : H' x = some o := fr4 f h n.1 n.2.1 n.2.2.1 n.2.2.2
/-- the other one's run -/
theorem WOk.sent (h : WOk K A H a) (f : Fr [A.b, A.DC, A.QL, A.PL] H H') {t' st' : Addr} {z : Str} {n : Nat} {qn : List V} {pv : V} (n1 : H st' = none) (eb : H' A.b = some (ClO K A.db A.S "bob" .non st' .non)) (es : H' st' = some (.dK []))
    (eD : H' A.DC = some (.dK [(kA, .ref t')])) (et : H' t' = some (.tup [.str z, .int ((n : Nat) : Int)])) (eQ : H' A.QL = some (.lst (a.qs ++ qn))) (pQ : Paired (QuT K H') qn [(n, z)]) (eP : H' A.PL = some (.lst (a.past ++ [pv]))) :
    WOk K A H' { a with t := t', w0 := z, cn := n, qs := a.qs ++ qn, que := a.que ++ [(n, z)], past := a.past ++ [pv], sb := st' } :=
  have m : Mu H [A.b, A.DC, A.QL, A.PL] := .cons h.b (.cons h.DC (.cons h.QL (.cons h.PL .nil)))
  { S := fr4 f h.S (nk h.S h.b) (nk h.S h.DC) (nk h.S h.QL) (nk h.S h.PL), ru := h.ru, up := h.up, DC := eD, t := et, DM := fr4 f h.DM (nk h.DM h.b) (Ne.symm h.dk.1) (nk h.DM h.QL) (nk h.DM h.PL),
    PL := eP, QL := eQ, que := paired_app (Paired.mapP h.que fun _ _ q => q.mu m f) pQ, c := fr4 f h.c h.cb (nk h.c h.DC) (nk h.c h.QL) (nk h.c h.PL),
    st := fr4 f h.st (nk h.st h.b) h.dk.2.1 (nk h.st h.QL) (nk h.st h.PL), b := eb, sb := es, k := fr4 f h.k (nk h.k h.b) (nk h.k h.DC) (nk h.k h.QL) (nk h.k h.PL),
    L := fr4 f h.L (nk h.L h.b) (nk h.L h.DC) (Ne.symm h.ls.2.2) (Ne.symm h.ls.2.1),
    tx := (fun x e => have t := h.tx x e
      t.mu m f (by simp [nk t.tx h.b, nk t.tx h.DC, nk t.tx h.QL, nk t.tx h.PL]) (by simp [nk t.sn h.b, t.dk.1, nk t.sn h.QL, nk t.sn h.PL]) (by simp [nk t.ro h.b, nk t.ro h.DC, t.ls.1, t.ls.2.1])),
    ls := h.ls, dk := ⟨h.dk.1, h.dk.2.1, h.dk.2.2.1, Ne.symm (ne_of_none h.DC n1), Ne.symm (ne_of_none h.DM n1), ne_of_none h.st n1⟩, cb := h.cb, bs := Same.frB h.bs f (by simp [h.bn]), bn := h.bn }
/-- what was received -/
theorem WOk.got (h : WOk K A H a) (f : Fr [A.c] H H') {p : Option Nat} (ec : H' A.c = some (ClO K A.dc A.S "ann" (wkV a.wk) a.st (pV p))) : WOk K A H' { a with po := p } :=
  have m : Mu H [A.c] := .cons h.c .nil
  { S := fr1 f h.S (nk h.S h.c), ru := h.ru, up := h.up, DC := fr1 f h.DC (nk h.DC h.c), t := m.tup f h.t, DM := fr1 f h.DM (nk h.DM h.c), PL := fr1 f h.PL (nk h.PL h.c), QL := fr1 f h.QL (nk h.QL h.c),
    que := Paired.mapP h.que fun _ _ q => q.mu m f, c := ec, st := fr1 f h.st (nk h.st h.c), b := fr1 f h.b (Ne.symm h.cb), sb := fr1 f h.sb (nk h.sb h.c), k := fr1 f h.k (nk h.k h.c), L := fr1 f h.L (nk h.L h.c),
    tx := (fun x e => have t := h.tx x e
      t.mu m f (by simp [nk t.tx h.c]) (by simp [nk t.sn h.c]) (by simp [nk t.ro h.c])),
    ls := h.ls, dk := h.dk, cb := h.cb, bs := Same.frB h.bs f (by simp [h.bn]), bn := h.bn }
end

end
end CN
end
section
set_option Elab.async false
set_option linter.all false
set_option maxRecDepth 100000
set_option maxHeartbeats 4000000
namespace CN
open PySem PySem.Spec PyProof.Rows L2
local macro_rules | `(tactic| trivial) => `(tactic| exact Led.get (by assumption) 9)
local macro_rules | `(tactic| trivial) => `(tactic| exact Led.get (by assumption) 8)
local macro_rules | `(tactic| trivial) => `(tactic| exact Led.get (by assumption) 7)
local macro_rules | `(tactic| trivial) => `(tactic| exact Led.get (by assumption) 6)
local macro_rules | `(tactic| trivial) => `(tactic| exact Led.get (by assumption) 5)
local macro_rules | `(tactic| trivial) => `(tactic| exact Led.get (by assumption) 4)
local macro_rules | `(tactic| trivial) => `(tactic| exact Led.get (by assumption) 3)
local macro_rules | `(tactic| trivial) => `(tactic| exact Led.get (by assumption) 2)
local macro_rules | `(tactic| trivial) => `(tactic| exact Led.get (by assumption) 1)
local macro_rules | `(tactic| trivial) => `(tactic| exact Led.get (by assumption) 0)
section
variable {P : Program} {w : World} {K : PySem.W.Frag} {mg : Str → Option Value} {base : Heap} [POk P]
section
variable {A : Ad} {H H' : Hp} {a : Ab}
def wkA : Option Txn → List Addr
  | none => []
  | some x => [x.tx]
theorem WOk.ntx (h : WOk K A H a) {y : Addr} {o : HO} (e : H y = some o) (k : Nat.beq (kd o) 70 = false := by rfl) : y ∉ wkA a.wk := fun hy => by
  cases hw : a.wk with
  | none => rw [hw] at hy; cases hy
  | some x =>
    rw [hw] at hy
    rw [List.mem_singleton.mp hy, (h.tx x hw).tx] at e
    cases e
    cases k
theorem WOk.nwk (h : WOk K A H a) : ∀ q ∈ wkA a.wk, A.B q = none := fun q hq => by
  cases hw : a.wk with
  | none => rw [hw] at hq; cases hq
  | some x =>
    rw [hw] at hq
    rw [List.mem_singleton.mp hq]
    exact (h.tx x hw).nb.1
/-- her run, her commit: no word set, nothing said -/
theorem WOk.ran (h : WOk K A H a) (f : Fr (wkA a.wk ++ [A.c, A.DC, A.QL, A.PL, A.k]) H H') {st' : Addr} {sl po : Option Nat} {pv : V} (n1 : H st' = none) (ec : H' A.c = some (ClO K A.dc A.S "ann" .non st' (pV po))) (es : H' st' = some (.dK (sV sl)))
    (eD : H' A.DC = some (.dK [(kA, .ref a.t)])) (eQ : H' A.QL = some (.lst a.qs)) (eP : H' A.PL = some (.lst (a.past ++ [pv]))) (ek : H' A.k = some (KeO K A.dk A.c A.way .non a.kn A.L)) :
    WOk K A H' { a with st := st', sl := sl, po := po, past := a.past ++ [pv], wk := none } :=
  have m : Mu H (wkA a.wk ++ [A.c, A.DC, A.QL, A.PL, A.k]) := by
    have m1 : Mu H [A.c, A.DC, A.QL, A.PL, A.k] := .cons h.c (.cons h.DC (.cons h.QL (.cons h.PL (.cons h.k .nil))))
    cases hw : a.wk with
    | none => exact m1
    | some x => exact .cons (h.tx x hw).tx m1
  have g : ∀ {y : Addr} {o : HO}, H y = some o → y ∉ wkA a.wk → y ≠ A.c → y ≠ A.DC → y ≠ A.QL → y ≠ A.PL → y ≠ A.k → H' y = some o := fun e n i1 i2 i3 i4 i5 => f _ _ e (by simp [n, i1, i2, i3, i4, i5])
  { S := g h.S (h.ntx h.S) (nk h.S h.c) (nk h.S h.DC) (nk h.S h.QL) (nk h.S h.PL) (nk h.S h.k), ru := h.ru, up := h.up, DC := eD, t := m.tup f h.t,
    DM := g h.DM (h.ntx h.DM) (nk h.DM h.c) (Ne.symm h.dk.1) (nk h.DM h.QL) (nk h.DM h.PL) (nk h.DM h.k), PL := eP, QL := eQ, que := Paired.mapP h.que fun _ _ q => q.mu m f, c := ec, st := es,
    b := g h.b (h.ntx h.b) (Ne.symm h.cb) (nk h.b h.DC) (nk h.b h.QL) (nk h.b h.PL) (nk h.b h.k), sb := g h.sb (h.ntx h.sb) (nk h.sb h.c) h.dk.2.2.2.1 (nk h.sb h.QL) (nk h.sb h.PL) (nk h.sb h.k), k := ek,
    L := g h.L (h.ntx h.L) (nk h.L h.c) (nk h.L h.DC) (Ne.symm h.ls.2.2) (Ne.symm h.ls.2.1) (nk h.L h.k), tx := (fun y e => nomatch e), ls := h.ls,
    dk := ⟨h.dk.1, Ne.symm (ne_of_none h.DC n1), Ne.symm (ne_of_none h.DM n1), h.dk.2.2.2.1, h.dk.2.2.2.2.1, Ne.symm (ne_of_none h.sb n1)⟩, cb := h.cb, bs := Same.frB h.bs f (fun q hq => (List.mem_append.mp hq).elim (h.nwk q) ((show ∀ z ∈ _, A.B z = none by simp [h.bn]) q)), bn := h.bn }
/-- disconnected -/
theorem WOk.gone (h : WOk K A H a) (f : Fr (wkA a.wk ++ [A.c, A.k]) H H') {st' : Addr} (n1 : H st' = none) (ec : H' A.c = some (ClO K A.dc A.S "ann" .non st' .non)) (es : H' st' = some (.dK [])) (ek : H' A.k = some (KeO K A.dk A.c A.way .non a.kn A.L)) :
    WOk K A H' { a with st := st', sl := none, po := none, wk := none } :=
  have m : Mu H (wkA a.wk ++ [A.c, A.k]) := by
    cases hw : a.wk with
    | none => exact h.mck
    | some x => exact .cons (h.tx x hw).tx h.mck
  have g : ∀ {y : Addr} {o : HO}, H y = some o → y ∉ wkA a.wk → y ≠ A.c → y ≠ A.k → H' y = some o := fun e n i1 i5 => f _ _ e (by simp [n, i1, i5])
  { S := g h.S (h.ntx h.S) (nk h.S h.c) (nk h.S h.k), ru := h.ru, up := h.up, DC := g h.DC (h.ntx h.DC) (nk h.DC h.c) (nk h.DC h.k), t := m.tup f h.t, DM := g h.DM (h.ntx h.DM) (nk h.DM h.c) (nk h.DM h.k),
    PL := g h.PL (h.ntx h.PL) (nk h.PL h.c) (nk h.PL h.k), QL := g h.QL (h.ntx h.QL) (nk h.QL h.c) (nk h.QL h.k), que := Paired.mapP h.que fun _ _ q => q.mu m f, c := ec, st := es,
    b := g h.b (h.ntx h.b) (Ne.symm h.cb) (nk h.b h.k), sb := g h.sb (h.ntx h.sb) (nk h.sb h.c) (nk h.sb h.k), k := ek, L := g h.L (h.ntx h.L) (nk h.L h.c) (nk h.L h.k), tx := (fun y e => nomatch e), ls := h.ls,
    dk := ⟨h.dk.1, Ne.symm (ne_of_none h.DC n1), Ne.symm (ne_of_none h.DM n1), h.dk.2.2.2.1, h.dk.2.2.2.2.1, Ne.symm (ne_of_none h.sb n1)⟩, cb := h.cb, bs := Same.frB h.bs f (fun q hq => (List.mem_append.mp hq).elim (h.nwk q) ((show ∀ z ∈ _, A.B z = none by simp [h.bn]) q)), bn := h.bn }
end

end
end CN
end
section
set_option Elab.async false
set_option linter.all false
set_option maxRecDepth 100000
set_option maxHeartbeats 4000000
namespace CN
open PySem PySem.Spec PyProof.Rows L2
local macro_rules | `(tactic| trivial) => `(tactic| exact Led.get (by assumption) 9)
local macro_rules | `(tactic| trivial) => `(tactic| exact Led.get (by assumption) 8)
local macro_rules | `(tactic| trivial) => `(tactic| exact Led.get (by assumption) 7)
local macro_rules | `(tactic| trivial) => `(tactic| exact Led.get (by assumption) 6)
local macro_rules | `(tactic| trivial) => `(tactic| exact Led.get (by assumption) 5)
local macro_rules | `(tactic| trivial) => `(tactic| exact Led.get (by assumption) 4)
local macro_rules | `(tactic| trivial) => `(tactic| exact Led.get (by assumption) 3)
local macro_rules | `(tactic| trivial) => `(tactic| exact Led.get (by assumption) 2)
local macro_rules | `(tactic| trivial) => `(tactic| exact Led.get (by assumption) 1)
local macro_rules | `(tactic| trivial) => `(tactic| exact Led.get (by assumption) 0)
section
variable {P : Program} {w : World} {K : PySem.W.Frag} {mg : Str → Option Value} {base : Heap}
/-! ### versions against states -/
structure VInv (s : VS) : Prop where
  cp : s.cp ≤ s.pr
  li : s.li = false → s.wt = []
  wt : s.wt = [] ∨ s.wt.getLast? = some s.pr
  wk : ∀ x y, s.wk = some (x, y) → x ≤ s.pr ∧ (y = "" ∨ y = "listen" ∨ y = "unlisten")
def penA (y : Str) : Int := if y = "listen" then 1 else if y = "unlisten" then 2 else 0
def workA (s : VS) : I3 := match s.wk with
  | none => (0, 0, if s.li then 1 else 0)
  | some (x, y) => (if x = s.pr then 1 else 2, penA y, if s.li then 1 else 0)
def pairA (s : VS) : I2 := (if s.cp = s.pr then 1 else 0, if s.wt = [] then 0 else 1)
theorem VInv.start : VInv startV := ⟨by decide, fun _ => rfl, .inl rfl, fun _ _ h => nomatch h⟩
theorem VInv.alone {s : VS} (h : VInv s) (hw : s.wk = none) (st : Str) : VInv (aloneV st s) := by
  obtain ⟨h1, h2, h3, h4⟩ := h
  unfold aloneV
  split
  · exact ⟨h1, h2, h3, fun x y e => by cases e; exact ⟨Int.le_refl _, .inl rfl⟩⟩
  split
  · exact ⟨h1, fun e => (nomatch e), h3, fun x y e => nomatch e⟩
  split
  · exact ⟨h1, fun _ => rfl, .inl rfl, fun x y e => nomatch e⟩
  split
  · cases hg : s.wt.getLast? with
    | none => exact ⟨h1, h2, h3, h4⟩
    | some x =>
      rcases h3 with e | e
      · rw [e] at hg
        cases hg
      · rw [e] at hg
        cases hg
        exact ⟨Int.le_refl _, fun _ => rfl, .inl rfl, fun x y e => nomatch e⟩
  · exact ⟨h1, h2, h3, h4⟩
theorem VInv.within {s : VS} (h : VInv s) {x : Int} {y : Str} (hw : s.wk = some (x, y)) (st : Str) : VInv (withinV st x y s) := by
  obtain ⟨h1, h2, h3, h4⟩ := h
  unfold withinV
  split
  · exact ⟨h1, h2, h3, fun x y e => nomatch e⟩
  split
  · rename_i h5
    exact ⟨h1, h2, h3, fun x' y' e => by cases e; exact ⟨(h4 x y hw).1, h5.elim (fun e => .inr (.inl e)) (fun e => .inr (.inr e))⟩⟩
  split
  · split
    · exact ⟨h1, fun _ => rfl, .inl rfl, fun x y e => nomatch e⟩
    · exact ⟨h1, fun e => h2 (by
        have e : (s.li || decide (y = "listen")) = false := e
        cases hl : s.li with
        | true => rw [hl] at e; cases e
        | false => rfl), h3, fun x y e => nomatch e⟩
  · exact ⟨h1, h2, h3, h4⟩
theorem VInv.after {s : VS} (h : VInv s) (st : Str) : VInv (afterV s st) := by
  have h0 := h
  obtain ⟨h1, h2, h3, h4⟩ := h
  unfold afterV
  split
  · refine ⟨by show s.cp ≤ s.pr + 1; omega, fun e => ?_, ?_, fun x y e => ?_⟩
    · have e : s.li = false := e
      show (if s.li = true then _ else _) = _
      rw [if_neg (by rw [e]; decide)]
      exact h2 e
    · show (if s.li = true then _ else _) = _ ∨ (if s.li = true then _ else _ : List Int).getLast? = _
      cases hl : s.li with
      | true =>
        rw [if_pos rfl]
        exact .inr (by simp)
      | false =>
        rw [if_neg (by decide)]
        exact .inl (h2 hl)
    · have := h4 x y e
      exact ⟨by show x ≤ s.pr + 1; omega, this.2⟩
  split
  · exact ⟨h1, fun _ => rfl, .inl rfl, fun x y e => nomatch e⟩
  split
  · refine ⟨?_, h2, h3, h4⟩
    cases hw : s.wk with
    | none => exact Int.le_refl _
    | some q => exact (h4 q.1 q.2 hw).1
  · cases hw : s.wk with
    | none => exact h0.alone hw st
    | some q => exact h0.within hw st
theorem told_sim {s : VS} (h : VInv s) : (workA (afterV s "other"), pairA (afterV s "other")) = toldP (workA s) := by
  obtain ⟨h1, h2, h3, h4⟩ := h
  have hr : (if s.cp = s.pr + 1 then (1 : Int) else 0) = 0 := if_neg (by omega)
  have hp : pairA (afterV s "other") = (0, if s.li then 1 else 0) := by
    unfold pairA afterV
    rw [if_pos rfl]
    show ((if s.cp = s.pr + 1 then (1 : Int) else 0), (if (if s.li = true then s.wt ++ [s.pr + 1] else s.wt) = [] then (0 : Int) else 1)) = _
    rw [hr]
    cases hl : s.li with
    | true => simp
    | false => simp [h2 hl]
  rw [hp]
  unfold toldP workA afterV
  rw [if_pos rfl]
  cases hw : s.wk with
  | none => rfl
  | some q =>
    obtain ⟨x, y⟩ := q
    have hx := (h4 x y hw).1
    have e1 : (if x = s.pr + 1 then (1 : Int) else 2) = 2 := if_neg (by omega)
    have e2 : (if 0 < (if x = s.pr then (1 : Int) else 2) then (2 : Int) else 0) = 2 := if_pos (by split <;> decide)
    show ((if x = s.pr + 1 then (1 : Int) else 2, penA y, _), _) = ((if 0 < (if x = s.pr then (1 : Int) else 2) then (2 : Int) else 0, penA y, _), _)
    rw [e1, e2]
theorem behA_sim {s : VS} (h : VInv s) {st : Str} (hst : st ≠ "other") : (workA (afterV s st), pairA (afterV s st)) = behP st (workA s) (pairA s) := by
  obtain ⟨h1, h2, h3, h4⟩ := h
  unfold afterV
  rw [if_neg hst]
  by_cases hd : st = "disconnect"
  · subst hd
    rfl
  rw [if_neg hd]
  unfold behP
  rw [if_neg hd]
  by_cases hr : st = "read"
  · rw [if_pos hr, if_pos hr]
    unfold workA pairA copP
    cases hw : s.wk with
    | none =>
      show (_, (if s.pr = s.pr then (1 : Int) else 0, _)) = _
      rw [if_pos rfl]
      rfl
    | some q =>
      obtain ⟨x, y⟩ := q
      by_cases hx : x = s.pr
      · simp [hx]
      · simp [hx]
  rw [if_neg hr, if_neg hr]
  cases hw : s.wk with
  | none =>
    have e0 : workA s = (0, 0, if s.li then 1 else 0) := by unfold workA; rw [hw]
    rw [e0]
    show (workA (aloneV st s), pairA (aloneV st s)) = aloneP st (if s.li then 1 else 0) (pairA s)
    unfold aloneV aloneP
    by_cases g : st = "begin"
    · rw [if_pos g, if_pos g]
      show (((if s.pr = s.pr then (1 : Int) else 2), penA "", _), _) = _
      rw [if_pos rfl]
      rfl
    rw [if_neg g, if_neg g]
    by_cases g : st = "listen"
    · rw [if_pos g, if_pos g]
      rfl
    rw [if_neg g, if_neg g]
    by_cases g : st = "unlisten"
    · rw [if_pos g, if_pos g]
      rfl
    rw [if_neg g, if_neg g]
    by_cases g : st = "receive"
    · rw [if_pos g, if_pos g]
      unfold pairA recP
      rcases h3 with e | e
      · rw [e]
        show (workA s, pairA s) = _
        unfold pairA
        rw [e, e0]
        rfl
      · rw [e]
        have hne : s.wt ≠ [] := fun z => by rw [z] at e; cases e
        rw [if_neg hne]
        show ((0, 0, _), (if s.pr = s.pr then (1 : Int) else 0, _)) = _
        rw [if_pos rfl]
        rfl
    rw [if_neg g, if_neg g, e0]
  | some q =>
    obtain ⟨x, y⟩ := q
    have e0 : workA s = (if x = s.pr then 1 else 2, penA y, if s.li then 1 else 0) := by unfold workA; rw [hw]
    have hne : (workA s).1 ≠ 0 := by
      rw [e0]
      show (if x = s.pr then (1 : Int) else 2) ≠ 0
      split <;> decide
    rw [if_neg hne]
    show (workA (withinV st x y s), pairA (withinV st x y s)) = _
    unfold withinV withinP
    by_cases g : st = "rollback"
    · rw [if_pos g, if_pos g, e0]
      rfl
    rw [if_neg g, if_neg g]
    by_cases g : st = "listen"
    · rw [if_pos (.inl g), if_pos g, e0]
      subst g
      rfl
    rw [if_neg g]
    by_cases g2 : st = "unlisten"
    · rw [if_pos (.inr g2), if_pos g2, e0]
      subst g2
      rfl
    rw [if_neg (fun z => z.elim g g2), if_neg g2]
    by_cases g : st = "commit"
    · rw [if_pos g, if_pos g, e0]
      obtain ⟨_, hy⟩ := h4 x y hw
      rcases hy with rfl | rfl | rfl
      · rw [if_neg (by decide)]
        show ((0, 0, if (s.li || false) = true then 1 else 0), _) = ((0, 0, if s.li = true then 1 else 0), _)
        rw [Bool.or_false]
        rfl
      · rw [if_neg (by decide)]
        show ((0, 0, if (s.li || true) = true then 1 else 0), _) = ((0, 0, 1), _)
        rw [Bool.or_true]
        rfl
      · rw [if_pos rfl]
        rfl
    rw [if_neg g, if_neg g]
def absV (n : Nat) (s : VS) : S6 := (n, workA s, pairA s)
theorem abs_move {nds : Nds} (hok : OkNds nds) {n : Nat} {s : VS} (h : VInv s) {l : Int} {e : Str × Nat} (he : edgeAt nds n l = some e) : ∃ x ∈ movesP nds (absV n s), x.2 = absV e.2 (afterV s e.1) := by
  unfold edgeAt at he
  by_cases h1 : l = -1
  · rw [if_pos h1] at he
    cases he
    refine ⟨_, .head _, ?_⟩
    show (n, toldP (workA s)) = (n, workA (afterV s "other"), pairA (afterV s "other"))
    rw [← told_sim h]
  rw [if_neg h1] at he
  by_cases h2 : l < 0
  · rw [if_pos h2] at he
    cases he
  rw [if_neg h2] at he
  obtain ⟨es, g1, g2⟩ := Option.bind_eq_some_iff.mp he
  have hes : es ∈ nds := List.mem_of_getElem? g1
  have hst := ((hok.2.2 _ hes).2 e (List.mem_of_getElem? g2)).1
  have hne : e.1 ≠ "other" := fun z => by
    rw [z] at hst
    revert hst
    decide
  have hgd : nds.getD n [] = es := by rw [List.getD_eq_getElem?_getD, g1]; rfl
  refine ⟨_, List.mem_cons_of_mem _ (List.mem_of_getElem? (movesL_at (wk := workA s) (pr := pairA s) (by
    show (nds.getD n [])[l.toNat]? = some e
    rw [hgd]
    exact g2))), ?_⟩
  show (e.2, behP e.1 (workA s) (pairA s)) = (e.2, workA (afterV s e.1), pairA (afterV s e.1))
  rw [← behA_sim h hne]
theorem replay_in {nds : Nds} (hok : OkNds nds) {line : List S6} (hc : ∀ s ∈ line, ∀ x ∈ movesP nds s, x.2 ∈ line) : ∀ {run : List Int} {n m : Nat} {s t : VS}, VInv s → absV n s ∈ line → replay nds n s run = some (m, t) → VInv t ∧ absV m t ∈ line
  | [], n, m, s, t, h, hi, he => by
    cases he
    exact ⟨h, hi⟩
  | l :: r, n, m, s, t, h, hi, he => by
    obtain ⟨e, e1, e2⟩ := Option.bind_eq_some_iff.mp (show (edgeAt nds n l).bind (fun e => replay nds e.2 (afterV s e.1) r) = some (m, t) from he)
    obtain ⟨x, hx, ex⟩ := abs_move hok h e1
    have := hc _ hi x hx
    rw [ex] at this
    exact replay_in hok hc (h.after e.1) this e2
theorem replay_inv {nds : Nds} : ∀ {run : List Int} {n m : Nat} {s t : VS}, VInv s → replay nds n s run = some (m, t) → VInv t
  | [], n, m, s, t, h, he => by
    cases he
    exact h
  | l :: r, n, m, s, t, h, he => by
    obtain ⟨e, e1, e2⟩ := Option.bind_eq_some_iff.mp (show (edgeAt nds n l).bind (fun e => replay nds e.2 (afterV s e.1) r) = some (m, t) from he)
    exact replay_inv (h.after e.1) e2
/-- no bad state: at rest nothing is wrong -/
theorem sound {nds : Nds} (hok : OkNds nds) {fs : List Nat} {line : List S6} (hz : s0 ∈ line) (hc : ∀ s ∈ line, ∀ x ∈ movesP nds s, x.2 ∈ line)
    (hb : ∀ s : S6, s ∈ line → ¬ (s.1 ∈ fs ∧ s.2.1.1 = 0 ∧ s.2.2.1 = 0 ∧ s.2.2.2 = 0)) {run : List Int} {m : Nat} {t : VS} (he : replay nds 0 startV run = some (m, t)) (hm : m ∈ fs) (hw : t.wk = none) :
    (afterV t "receive").cp = (afterV t "receive").pr := by
  obtain ⟨hv, hi⟩ := replay_in hok hc VInv.start hz he
  have hn := hb _ hi
  have e1 : afterV t "receive" = aloneV "receive" t := by
    unfold afterV
    rw [if_neg (by decide), if_neg (by decide), if_neg (by decide), hw]
  rw [e1]
  unfold aloneV
  rw [if_neg (by decide), if_neg (by decide), if_neg (by decide), if_pos rfl]
  cases hg : t.wt.getLast? with
  | some x =>
    rcases hv.wt with e | e
    · rw [e] at hg
      cases hg
    · rw [e] at hg
      cases hg
      rfl
  | none =>
    have e : t.wt = [] := List.getLast?_eq_none_iff.mp hg
    show t.cp = t.pr
    by_cases hcp : t.cp = t.pr
    · exact hcp
    · exfalso
      refine hn ⟨hm, ?_, ?_, ?_⟩
      · show (workA t).1 = 0
        unfold workA
        rw [hw]
      · show (if t.cp = t.pr then (1 : Int) else 0) = 0
        rw [if_neg hcp]
      · show (if t.wt = [] then (0 : Int) else 1) = 0
        rw [if_pos e]

end
end CN
end
section
set_option Elab.async false
set_option linter.all false
set_option maxRecDepth 100000
set_option maxHeartbeats 4000000
namespace CN
open PySem PySem.Spec PyProof.Rows L2
local macro_rules | `(tactic| trivial) => `(tactic| exact Led.get (by assumption) 9)
local macro_rules | `(tactic| trivial) => `(tactic| exact Led.get (by assumption) 8)
local macro_rules | `(tactic| trivial) => `(tactic| exact Led.get (by assumption) 7)
local macro_rules | `(tactic| trivial) => `(tactic| exact Led.get (by assumption) 6)
local macro_rules | `(tactic| trivial) => `(tactic| exact Led.get (by assumption) 5)
local macro_rules | `(tactic| trivial) => `(tactic| exact Led.get (by assumption) 4)
local macro_rules | `(tactic| trivial) => `(tactic| exact Led.get (by assumption) 3)
local macro_rules | `(tactic| trivial) => `(tactic| exact Led.get (by assumption) 2)
local macro_rules | `(tactic| trivial) => `(tactic| exact Led.get (by assumption) 1)
local macro_rules | `(tactic| trivial) => `(tactic| exact Led.get (by assumption) 0)
section
variable {P : Program} {w : World} {K : PySem.W.Frag} {mg : Str → Option Value} {base : Heap} [POk P]
/-- the world without its addresses -/
structure Cr where
  w0 : Str
  (cn kn pl : Nat)
  que : List (Nat × Str)
  (sl po : Option Nat)
  ws : List Str
  wk : Option (Nat × Nat × Str × List Stp)
def gotQ (c : Cr) : List (Nat × Str) := match c.po with
  | none => []
  | some p => c.que.drop p
def aloneC (way : Str) (st : Str) (c : Cr) : Cr :=
  if st = "begin" then { c with wk := some (c.pl, c.cn, c.w0, []) } else
  if st = "listen" ∨ st = "unlisten" then { c with sl := (behS c.que.length c.sl c.po (some st)).1, po := (behS c.que.length c.sl c.po (some st)).2, pl := c.pl + 1 } else
  if st = "receive" then { c with po := c.po.map (fun _ => c.que.length), ws := (updAll way (c.w0, c.cn) (c.ws, c.kn) (gotQ c)).1, kn := (updAll way (c.w0, c.cn) (c.ws, c.kn) (gotQ c)).2 } else c
/-! ### the keeper's world against versions -/
def wlOf (stps : List Stp) : Option Str := stps.foldl (fun o s => match s with
  | .lis => some ("listen" : Str)
  | .unl => some ("unlisten" : Str)
  | _ => o) none
theorem wlOf_lis (l : List Stp) : wlOf (l ++ [.lis]) = some ("listen" : Str) := by
  unfold wlOf
  rw [List.foldl_append]
  rfl
theorem wlOf_unl (l : List Stp) : wlOf (l ++ [.unl]) = some ("unlisten" : Str) := by
  unfold wlOf
  rw [List.foldl_append]
  rfl
def withinC (st : Str) (x : Nat × Nat × Str × List Stp) (c : Cr) : Cr :=
  if st = "listen" then { c with wk := some (x.1, x.2.1, x.2.2.1, x.2.2.2 ++ [.lis]) } else
  if st = "unlisten" then { c with wk := some (x.1, x.2.1, x.2.2.1, x.2.2.2 ++ [.unl]) } else
  if st = "commit" then { c with sl := (behS c.que.length c.sl c.po (wlOf x.2.2.2)).1, po := (behS c.que.length c.sl c.po (wlOf x.2.2.2)).2, pl := c.pl + 1, wk := none } else
  if st = "rollback" then { c with wk := none } else c
def callC (way st : Str) (c : Cr) : Cr :=
  if st = "disconnect" then { c with sl := none, po := none, wk := none } else
  if st = "read" then (match c.wk with
    | none => { c with ws := c.ws ++ [c.w0], kn := c.cn }
    | some x => { c with ws := c.ws ++ [x.2.2.1], kn := x.2.1 }) else
  (match c.wk with
    | none => aloneC way st c
    | some x => withinC st x c)
def otherC (z : Str) (c : Cr) : Cr := { c with w0 := z, cn := c.pl + 1, pl := c.pl + 1, que := c.que ++ [(c.pl + 1, z)] }
def WkR (word : Nat → Str) (k cn : Nat) : Option (Nat × Nat × Str × List Stp) → Option (Int × Str) → Prop
  | none, none => True
  | some x, some y => x.2.1 ≤ cn ∧ (∃ j : Nat, j ≤ k ∧ y.1 = (j : Int) ∧ x.2.2.1 = word j) ∧ ((wlOf x.2.2.2 = none ∧ y.2 = "") ∨ (wlOf x.2.2.2 = some ("listen" : Str) ∧ y.2 = "listen") ∨ (wlOf x.2.2.2 = some ("unlisten" : Str) ∧ y.2 = "unlisten"))
  | _, _ => False
structure CInv (word : Nat → Str) (k : Nat) (c : Cr) (s : VS) : Prop where
  v : VInv s
  pr : s.pr = (k : Int)
  w0 : c.w0 = word k
  cn : c.cn ≤ c.pl
  kn : c.kn ≤ c.cn
  held : (s.cp = -1 ∧ c.ws = []) ∨ ∃ j : Nat, j ≤ k ∧ s.cp = (j : Int) ∧ c.ws.getLast? = some (word j)
  li : (s.li = false ∧ c.sl = none ∧ c.po = none) ∨ (s.li = true ∧ ∃ p s0, c.po = some p ∧ c.sl = some s0 ∧ s0 ≤ p ∧ p ≤ c.que.length)
  wt : (gotQ c).map Prod.snd = s.wt.map fun i => word i.toNat
  num : ∀ q ∈ c.que, q.1 ≤ c.cn
  last : c.que = [] ∨ c.que.getLast? = some (c.cn, c.w0)
  wk : WkR word k c.cn c.wk s.wk
theorem upd_num (way : Str) {n : Nat} : ∀ (que : List (Nat × Str)) (s : List Str × Nat), s.2 ≤ n → (∀ q ∈ que, q.1 ≤ n) → (que.foldl (updOne way) s).2 ≤ n
  | [], s, h, _ => h
  | q :: r, s, h, hq => by
    rw [List.foldl_cons]
    refine upd_num way r _ ?_ fun x hx => hq x (.tail _ hx)
    unfold updOne
    split
    · exact hq q (.head _)
    · exact h
theorem upd_last {way : Str} {w0 : Str} {cn kn : Nat} {ws : List Str} {que : List (Nat × Str)} (hk : kn ≤ cn) (hn : ∀ q ∈ que, q.1 ≤ cn) (hl : que.getLast? = some (cn, w0)) :
    (updAll way (w0, cn) (ws, kn) que).1.getLast? = some w0 ∧ (updAll way (w0, cn) (ws, kn) que).2 = cn := by
  have hne : que ≠ [] := fun e => by rw [e] at hl; cases hl
  unfold updAll
  by_cases hw : way = "reread"
  · rw [if_pos hw, if_neg hne]
    exact ⟨by simp, rfl⟩
  · rw [if_neg hw]
    obtain ⟨r, rfl⟩ : ∃ r, que = r ++ [(cn, w0)] := by
      refine ⟨que.dropLast, ?_⟩
      rw [List.getLast?_eq_some_getLast hne] at hl
      have := List.dropLast_concat_getLast hne
      rw [Option.some.inj hl] at this
      exact this.symm
    rw [List.foldl_append, List.foldl_cons, List.foldl_nil]
    have h2 := upd_num way r (ws, kn) hk fun q hq => hn q (List.mem_append_left _ hq)
    generalize r.foldl (updOne way) (ws, kn) = s at h2
    unfold updOne
    rw [if_pos (.inr h2)]
    exact ⟨by simp, rfl⟩
theorem upd_nil (way : Str) (c : Str × Nat) (s : List Str × Nat) : updAll way c s [] = s := by
  unfold updAll
  split
  · rw [if_pos rfl]
  · rfl
theorem drop_last {α : Type} {l : List α} {p : Nat} (h : l.drop p ≠ []) : (l.drop p).getLast? = l.getLast? := by
  rw [List.getLast?_drop]
  rw [if_neg]
  intro h2
  exact h (List.drop_eq_nil_of_le h2)
theorem gotQ_none {c : Cr} (h : c.po = none) : gotQ c = [] := by
  unfold gotQ
  rw [h]
theorem gotQ_some {c : Cr} {p : Nat} (h : c.po = some p) : gotQ c = c.que.drop p := by
  unfold gotQ
  rw [h]
section
variable {word : Nat → Str} {k : Nat} {c : Cr} {s : VS}
theorem WkR.mono {k cn k' cn' : Nat} (hk : k ≤ k') (hc : cn ≤ cn') : ∀ {a : Option (Nat × Nat × Str × List Stp)} {b : Option (Int × Str)}, WkR word k cn a b → WkR word k' cn' a b
  | none, none, _ => True.intro
  | some x, some y, ⟨h1, ⟨j, h2, h3⟩, h4⟩ => ⟨Nat.le_trans h1 hc, ⟨j, Nat.le_trans h2 hk, h3⟩, h4⟩
  | none, some _, h => h.elim
  | some _, none, h => h.elim
/-- another one commits -/
theorem CInv.other (h : CInv word k c s) : CInv word (k + 1) (otherC (word (k + 1)) c) (afterV s "other") := by
  have e : afterV s "other" = { s with pr := s.pr + 1, wt := if s.li then s.wt ++ [s.pr + 1] else s.wt } := by
    unfold afterV
    rw [if_pos rfl]
  have hv := h.v.after "other"
  have hcn := h.cn
  rw [e] at hv ⊢
  refine ⟨hv, ?_, rfl, Nat.le_refl _, ?_, ?_, ?_, ?_, ?_, ?_, ?_⟩
  · show s.pr + 1 = _
    rw [h.pr]
    omega
  · show c.kn ≤ c.pl + 1
    have := h.kn
    omega
  · rcases h.held with ⟨h1, h2⟩ | ⟨j, h1, h2⟩
    · exact .inl ⟨h1, h2⟩
    · exact .inr ⟨j, by omega, h2⟩
  · rcases h.li with h1 | ⟨h1, p, s0, h2, h3, h4, h5⟩
    · exact .inl h1
    · exact .inr ⟨h1, p, s0, h2, h3, h4, by
        show p ≤ (c.que ++ [_]).length
        rw [List.length_append]
        omega⟩
  · rcases h.li with ⟨h1, h2, h3⟩ | ⟨h1, p, s0, h2, h3, h4, h5⟩
    · have hg : gotQ (otherC (word (k + 1)) c) = [] := gotQ_none h3
      rw [hg]
      show _ = List.map _ (if s.li = true then _ else _)
      rw [h1, if_neg (by decide), h.v.li h1]
      rfl
    · have hg : gotQ (otherC (word (k + 1)) c) = (c.que ++ [(c.pl + 1, word (k + 1))]).drop p := gotQ_some h2
      have hw := h.wt
      rw [gotQ_some h2] at hw
      rw [hg, List.drop_append_of_le_length h5, List.map_append, hw]
      show _ = List.map _ (if s.li = true then _ else _)
      rw [h1, if_pos rfl, List.map_append]
      have e2 : (s.pr + 1).toNat = k + 1 := by
        rw [h.pr]
        omega
      simp only [List.map_cons, List.map_nil, e2]
  · intro q hq
    show q.1 ≤ c.pl + 1
    rcases List.mem_append.mp hq with hq | hq
    · have := h.num q hq
      omega
    · rw [List.mem_singleton.mp hq]
      exact Nat.le_refl _
  · exact .inr (by
      show (c.que ++ [(c.pl + 1, word (k + 1))]).getLast? = some (c.pl + 1, word (k + 1))
      simp)
  · exact h.wk.mono (Nat.le_succ _) (by
      show c.cn ≤ c.pl + 1
      omega)
theorem behS_n {total : Nat} {sl po : Option Nat} : behS total sl po none = (sl, if sl.isSome then po else none) := rfl
theorem behS_u {total : Nat} {sl po : Option Nat} : behS total sl po (some ("unlisten" : Str)) = (none, none) := by
  show (if (some ("unlisten" : Str) : Option Str) = some ("listen" : Str) ∧ (if (some ("unlisten" : Str) : Option Str) = some ("unlisten" : Str) then none else sl) = none then (some total, some total) else ((if (some ("unlisten" : Str) : Option Str) = some ("unlisten" : Str) then none else sl), if (if (some ("unlisten" : Str) : Option Str) = some ("unlisten" : Str) then none else sl).isSome then po else none)) = _
  rw [if_neg (fun z => absurd z.1 (by decide)), if_pos rfl]
  rfl
theorem behS_l {total : Nat} {sl po : Option Nat} : behS total sl po (some ("listen" : Str)) = if sl = none then (some total, some total) else (sl, if sl.isSome then po else none) := by
  have e : (if (some ("listen" : Str) : Option Str) = some ("unlisten" : Str) then none else sl) = sl := if_neg (by decide)
  show (if (some ("listen" : Str) : Option Str) = some ("listen" : Str) ∧ (if (some ("listen" : Str) : Option Str) = some ("unlisten" : Str) then none else sl) = none then (some total, some total) else ((if (some ("listen" : Str) : Option Str) = some ("unlisten" : Str) then none else sl), if (if (some ("listen" : Str) : Option Str) = some ("unlisten" : Str) then none else sl).isSome then po else none)) = _
  rw [e]
  by_cases h : sl = none
  · rw [if_pos ⟨rfl, h⟩, if_pos h]
  · rw [if_neg (fun z => h z.2), if_neg h]
/-- what listening becomes -/
theorem beh_cases (h : CInv word k c s) {wl : Option Str} {y : Str} (hy : (wl = none ∧ y = "") ∨ (wl = some ("listen" : Str) ∧ y = "listen") ∨ (wl = some ("unlisten" : Str) ∧ y = "unlisten")) {c' : Cr} {s' : VS} (hq : c'.que = c.que) (hsl : c'.sl = (behS c.que.length c.sl c.po wl).1)
    (hpo : c'.po = (behS c.que.length c.sl c.po wl).2) (hli : s'.li = if y = "unlisten" then false else s.li || decide (y = "listen")) (hwt : s'.wt = if y = "unlisten" then [] else s.wt) :
    ((s'.li = false ∧ c'.sl = none ∧ c'.po = none) ∨ (s'.li = true ∧ ∃ p s0, c'.po = some p ∧ c'.sl = some s0 ∧ s0 ≤ p ∧ p ≤ c'.que.length)) ∧ (gotQ c').map Prod.snd = s'.wt.map fun i => word i.toNat := by
  have hw := h.wt
  rcases hy with ⟨rfl, rfl⟩ | ⟨rfl, rfl⟩ | ⟨rfl, rfl⟩
  · rw [if_neg (by decide)] at hli hwt
    rw [behS_n] at hsl hpo
    rw [show decide (("" : Str) = "listen") = false by decide, Bool.or_false] at hli
    rcases h.li with ⟨h1, h2, h3⟩ | ⟨h1, p, s0, h2, h3, h4, h5⟩
    · have hpo : c'.po = none := by rw [hpo, h2]; rfl
      refine ⟨.inl ⟨hli.trans h1, hsl.trans h2, hpo⟩, ?_⟩
      rw [gotQ_none hpo, hwt, h.v.li h1]
      rfl
    · have hpo : c'.po = some p := by rw [hpo, h3]; exact h2
      refine ⟨.inr ⟨hli.trans h1, p, s0, hpo, hsl.trans h3, h4, by rw [hq]; exact h5⟩, ?_⟩
      rw [gotQ_some hpo, hq, hwt, ← hw, gotQ_some h2]
  · rw [if_neg (by decide)] at hli hwt
    rw [show decide (("listen" : Str) = "listen") = true by decide, Bool.or_true] at hli
    rw [behS_l] at hsl hpo
    rcases h.li with ⟨h1, h2, h3⟩ | ⟨h1, p, s0, h2, h3, h4, h5⟩
    · rw [if_pos h2] at hsl hpo
      refine ⟨.inr ⟨hli, _, _, hpo, hsl, Nat.le_refl _, by rw [hq]; exact Nat.le_refl _⟩, ?_⟩
      rw [gotQ_some hpo, hq, List.drop_length, hwt, h.v.li h1]
      rfl
    · rw [if_neg (fun z => by rw [h3] at z; cases z)] at hsl hpo
      have hpo : c'.po = some p := by rw [hpo, h3]; exact h2
      refine ⟨.inr ⟨hli, p, s0, hpo, hsl.trans h3, h4, by rw [hq]; exact h5⟩, ?_⟩
      rw [gotQ_some hpo, hq, hwt, ← hw, gotQ_some h2]
  · rw [if_pos rfl] at hli hwt
    rw [behS_u] at hsl hpo
    refine ⟨.inl ⟨hli, hsl, hpo⟩, ?_⟩
    rw [gotQ_none hpo, hwt]
    rfl
/-- a step of the keeper -/
theorem CInv.call (h : CInv word k c s) (way : Str) {st : Str} (hst : st ≠ "other") : CInv word k (callC way st c) (afterV s st) := by
  have hv := h.v.after st
  have hcn := h.cn
  have hwk := h.wk
  unfold callC
  unfold afterV at hv ⊢
  rw [if_neg hst] at hv ⊢
  by_cases hd : st = "disconnect"
  · rw [if_pos hd] at hv ⊢
    rw [if_pos hd]
    exact ⟨hv, h.pr, h.w0, h.cn, h.kn, h.held, .inl ⟨rfl, rfl, rfl⟩, rfl, h.num, h.last, True.intro⟩
  rw [if_neg hd] at hv ⊢
  rw [if_neg hd]
  by_cases hr : st = "read"
  · rw [if_pos hr] at hv ⊢
    rw [if_pos hr]
    cases hc : c.wk with
    | none =>
      cases hs : s.wk with
      | some y => rw [hc, hs] at hwk; exact hwk.elim
      | none =>
        rw [hs] at hv
        exact ⟨hv, h.pr, h.w0, h.cn, Nat.le_refl _, .inr ⟨k, Nat.le_refl _, h.pr, by
          show (c.ws ++ [c.w0]).getLast? = _
          rw [h.w0]
          simp⟩, h.li, h.wt, h.num, h.last, True.intro⟩
    | some x =>
      cases hs : s.wk with
      | none => rw [hc, hs] at hwk; exact hwk.elim
      | some y =>
        rw [hs] at hv
        rw [hc, hs] at hwk
        obtain ⟨g1, ⟨j, g2, g3, g4⟩, g5⟩ := hwk
        exact ⟨hv, h.pr, h.w0, h.cn, g1, .inr ⟨j, g2, g3, by
          show (c.ws ++ [x.2.2.1]).getLast? = _
          rw [g4]
          simp⟩, h.li, h.wt, h.num, h.last, ⟨g1, ⟨j, g2, g3, g4⟩, g5⟩⟩
  rw [if_neg hr] at hv ⊢
  rw [if_neg hr]
  cases hc : c.wk with
  | none =>
    cases hs : s.wk with
    | some y => rw [hc, hs] at hwk; exact hwk.elim
    | none =>
      rw [hs] at hv
      show CInv word k (aloneC way st c) (aloneV st s)
      have hv : VInv (aloneV st s) := hv
      unfold aloneV at hv ⊢
      unfold aloneC
      by_cases g : st = "begin"
      · rw [if_pos g] at hv ⊢
        rw [if_pos g]
        exact ⟨hv, h.pr, h.w0, h.cn, h.kn, h.held, h.li, h.wt, h.num, h.last, ⟨Nat.le_refl _, ⟨k, Nat.le_refl _, h.pr, h.w0⟩, .inl ⟨rfl, rfl⟩⟩⟩
      rw [if_neg g] at hv ⊢
      rw [if_neg g]
      by_cases g : st = "listen"
      · rw [if_pos g] at hv ⊢
        rw [if_pos (.inl g)]
        obtain ⟨b1, b2⟩ := beh_cases h (wl := some st) (y := st) (.inr (.inl ⟨by rw [g], g⟩)) (c' := { c with sl := (behS c.que.length c.sl c.po (some st)).1, po := (behS c.que.length c.sl c.po (some st)).2, pl := c.pl + 1 }) (s' := { s with li := true, wk := none }) rfl rfl rfl
          (by subst g; rw [if_neg (by decide)]; show true = (s.li || decide (("listen" : Str) = "listen")); rw [decide_eq_true rfl, Bool.or_true]) (by subst g; rw [if_neg (by decide)])
        exact ⟨hv, h.pr, h.w0, Nat.le_succ_of_le h.cn, h.kn, h.held, b1, b2, h.num, h.last, by
          show WkR word k c.cn c.wk none
          rw [hc]
          exact True.intro⟩
      rw [if_neg g] at hv ⊢
      by_cases g2 : st = "unlisten"
      · rw [if_pos g2] at hv ⊢
        rw [if_pos (.inr g2)]
        obtain ⟨b1, b2⟩ := beh_cases h (wl := some st) (y := st) (.inr (.inr ⟨by rw [g2], g2⟩)) (c' := { c with sl := (behS c.que.length c.sl c.po (some st)).1, po := (behS c.que.length c.sl c.po (some st)).2, pl := c.pl + 1 }) (s' := { s with li := false, wt := [], wk := none }) rfl rfl rfl
          (by rw [if_pos g2]) (by rw [if_pos g2])
        exact ⟨hv, h.pr, h.w0, Nat.le_succ_of_le h.cn, h.kn, h.held, b1, b2, h.num, h.last, by
          show WkR word k c.cn c.wk none
          rw [hc]
          exact True.intro⟩
      rw [if_neg g2] at hv ⊢
      rw [if_neg (fun z => z.elim g g2)]
      by_cases g3 : st = "receive"
      · rw [if_pos g3] at hv ⊢
        rw [if_pos g3]
        have hwt := h.wt
        have hli : ∀ (li' : Bool), li' = s.li → (li' = false ∧ c.sl = none ∧ c.po.map (fun _ => c.que.length) = none) ∨ (li' = true ∧ ∃ p s0, c.po.map (fun _ => c.que.length) = some p ∧ c.sl = some s0 ∧ s0 ≤ p ∧ p ≤ c.que.length) := by
          rintro _ rfl
          rcases h.li with ⟨h1, h2, h3⟩ | ⟨h1, p, s0, h2, h3, h4, h5⟩
          · exact .inl ⟨h1, h2, by rw [h3]; rfl⟩
          · exact .inr ⟨h1, _, s0, by rw [h2]; rfl, h3, Nat.le_trans h4 h5, Nat.le_refl _⟩
        have hgo : ∀ (c' : Cr), c'.que = c.que → c'.po = c.po.map (fun _ => c.que.length) → gotQ c' = [] := fun c' e1 e2 => by
          cases hp : c.po with
          | none => rw [hp] at e2; exact gotQ_none e2
          | some p =>
            rw [hp] at e2
            rw [gotQ_some e2, e1, List.drop_length]
        cases hg : s.wt.getLast? with
        | none =>
          have e : s.wt = [] := List.getLast?_eq_none_iff.mp hg
          rw [hg] at hv
          have eg : gotQ c = [] := by
            rw [e] at hwt
            exact List.map_eq_nil_iff.mp hwt
          rw [eg, upd_nil]
          exact ⟨hv, h.pr, h.w0, h.cn, h.kn, h.held, hli _ rfl, (congrArg (List.map Prod.snd) (hgo _ (by exact rfl) (by exact rfl))).trans (show [] = List.map (fun i => word i.toNat) s.wt by rw [e]; rfl), h.num, h.last, by show WkR word k c.cn c.wk s.wk; exact h.wk⟩
        | some x =>
          rw [hg] at hv
          have hx : x = s.pr := by
            rcases h.v.wt with e | e
            · rw [e] at hg
              cases hg
            · rw [e] at hg
              exact (Option.some.inj hg).symm
          have hne : gotQ c ≠ [] := fun e => by
            rw [e] at hwt
            have e2 : s.wt = [] := List.map_eq_nil_iff.mp hwt.symm
            rw [e2] at hg
            cases hg
          have hsub : ∀ q ∈ gotQ c, q ∈ c.que := fun q hq => by
            cases hp : c.po with
            | none => rw [gotQ_none hp] at hq; cases hq
            | some p => rw [gotQ_some hp] at hq; exact List.mem_of_mem_drop hq
          have hlast : (gotQ c).getLast? = some (c.cn, c.w0) := by
            cases hp : c.po with
            | none => exact absurd (gotQ_none hp) hne
            | some p =>
              rw [gotQ_some hp] at hne ⊢
              rw [drop_last hne]
              rcases h.last with e | e
              · rw [e, List.drop_nil] at hne
                exact absurd rfl hne
              · exact e
          obtain ⟨u1, u2⟩ := upd_last (way := way) (ws := c.ws) h.kn (fun q hq => h.num q (hsub q hq)) hlast
          exact ⟨hv, h.pr, h.w0, h.cn, Nat.le_of_eq u2, .inr ⟨k, Nat.le_refl _, hx.trans h.pr, by rw [← h.w0]; exact u1⟩, hli _ rfl, congrArg (List.map Prod.snd) (hgo _ (by exact rfl) (by exact rfl)), h.num, h.last, by
            show WkR word k c.cn c.wk none
            rw [hc]
            exact True.intro⟩
      rw [if_neg g3] at hv ⊢
      rw [if_neg g3]
      exact h
  | some x =>
    cases hs : s.wk with
    | none => rw [hc, hs] at hwk; exact hwk.elim
    | some y =>
      rw [hs] at hv
      rw [hc, hs] at hwk
      obtain ⟨g1, g2, g3⟩ := hwk
      show CInv word k (withinC st x c) (withinV st y.1 y.2 s)
      have hv : VInv (withinV st y.1 y.2 s) := hv
      unfold withinV at hv ⊢
      by_cases gr : st = "rollback"
      · rw [if_pos gr] at hv ⊢
        unfold withinC
        rw [if_neg (by rw [gr]; decide), if_neg (by rw [gr]; decide), if_neg (by rw [gr]; decide), if_pos gr]
        exact ⟨hv, h.pr, h.w0, h.cn, h.kn, h.held, h.li, h.wt, h.num, h.last, True.intro⟩
      rw [if_neg gr] at hv ⊢
      by_cases gl : st = "listen"
      · rw [if_pos (show st = "listen" ∨ st = "unlisten" from .inl gl)] at hv ⊢
        unfold withinC
        rw [if_pos gl]
        exact ⟨hv, h.pr, h.w0, h.cn, h.kn, h.held, h.li, h.wt, h.num, h.last, ⟨g1, g2, .inr (.inl ⟨wlOf_lis _, gl⟩)⟩⟩
      by_cases gu : st = "unlisten"
      · rw [if_pos (show st = "listen" ∨ st = "unlisten" from .inr gu)] at hv ⊢
        unfold withinC
        rw [if_neg gl, if_pos gu]
        exact ⟨hv, h.pr, h.w0, h.cn, h.kn, h.held, h.li, h.wt, h.num, h.last, ⟨g1, g2, .inr (.inr ⟨wlOf_unl _, gu⟩)⟩⟩
      rw [if_neg (show ¬ (st = "listen" ∨ st = "unlisten") from fun z => z.elim gl gu)] at hv ⊢
      by_cases gc : st = "commit"
      · rw [if_pos gc] at hv ⊢
        unfold withinC
        rw [if_neg gl, if_neg gu, if_pos gc]
        obtain ⟨b1, b2⟩ := beh_cases h g3 (c' := { c with sl := (behS c.que.length c.sl c.po (wlOf x.2.2.2)).1, po := (behS c.que.length c.sl c.po (wlOf x.2.2.2)).2, pl := c.pl + 1, wk := none })
          (s' := if y.2 = "unlisten" then { s with li := false, wt := [], wk := none } else { s with li := s.li || decide (y.2 = "listen"), wk := none }) rfl rfl rfl (by split <;> rfl) (by split <;> rfl)
        have e1 : (if y.2 = "unlisten" then { s with li := false, wt := [], wk := none } else { s with li := s.li || decide (y.2 = "listen"), wk := none } : VS).pr = s.pr := by split <;> rfl
        have e2 : (if y.2 = "unlisten" then { s with li := false, wt := [], wk := none } else { s with li := s.li || decide (y.2 = "listen"), wk := none } : VS).cp = s.cp := by split <;> rfl
        have e3 : (if y.2 = "unlisten" then { s with li := false, wt := [], wk := none } else { s with li := s.li || decide (y.2 = "listen"), wk := none } : VS).wk = none := by split <;> rfl
        exact ⟨hv, e1.trans h.pr, h.w0, Nat.le_succ_of_le h.cn, h.kn, by rw [e2]; exact h.held, b1, b2, h.num, h.last, by rw [e3]; exact True.intro⟩
      rw [if_neg gc] at hv ⊢
      unfold withinC
      rw [if_neg gl, if_neg gu, if_neg gc, if_neg gr]
      exact h
theorem callC_other (way : Str) (c : Cr) : callC way "other" c = c := by
  unfold callC
  rw [if_neg (by decide), if_neg (by decide)]
  cases c.wk with
  | none =>
    show aloneC way "other" c = c
    unfold aloneC
    rw [if_neg (by decide), if_neg (by decide), if_neg (by decide)]
  | some x =>
    show withinC "other" x c = c
    unfold withinC
    rw [if_neg (by decide), if_neg (by decide), if_neg (by decide), if_neg (by decide)]
end
/-! ### bounds -/
def LU (l : List Stp) : Prop := ∀ s ∈ l, s = .lis ∨ s = .unl
theorem LU.snoc {l : List Stp} {s : Stp} (h : LU l) (hs : s = .lis ∨ s = .unl) : LU (l ++ [s]) := fun x hx => by
  rcases List.mem_append.mp hx with hx | hx
  · exact h x hx
  · rw [List.mem_singleton.mp hx]
    exact hs
structure CBd (i : Nat) (c : Cr) : Prop where
  cn : c.cn ≤ c.pl
  pl : c.pl ≤ 2 * i
  que : c.que.length ≤ i
  ws : c.ws.length ≤ 20 * i
  wk : ∀ x, c.wk = some x → x.2.2.2.length ≤ i ∧ LU x.2.2.2
theorem updAll_len (way : Str) (cell : Str × Nat) (s : List Str × Nat) (que : List (Nat × Str)) : (updAll way cell s que).1.length ≤ s.1.length + que.length := by
  unfold updAll
  split
  · split
    · exact Nat.le_add_right _ _
    · rename_i h
      show (s.1 ++ [cell.1]).length ≤ _
      have : 0 < que.length := List.length_pos_iff.mpr h
      rw [List.length_append]
      show s.1.length + 1 ≤ _
      omega
  · exact upd_len way que s
theorem gotQ_len (c : Cr) : (gotQ c).length ≤ c.que.length := by
  unfold gotQ
  split
  · exact Nat.zero_le _
  · rw [List.length_drop]
    omega
theorem CBd.other {i : Nat} {c : Cr} (h : CBd i c) (z : Str) : CBd (i + 1) (otherC z c) := by
  obtain ⟨h1, h2, h3, h4, h5⟩ := h
  refine ⟨Nat.le_refl _, ?_, ?_, ?_, fun x e => ⟨Nat.le_succ_of_le (h5 x e).1, (h5 x e).2⟩⟩
  · show c.pl + 1 ≤ _
    omega
  · show (c.que ++ [_]).length ≤ _
    rw [List.length_append]
    exact Nat.succ_le_succ h3
  · show c.ws.length ≤ _
    omega
theorem CBd.call {i : Nat} {c : Cr} (h : CBd i c) (hi : i ≤ 18) (way st : Str) : CBd (i + 1) (callC way st c) := by
  obtain ⟨h1, h2, h3, h4, h5⟩ := h
  have d0 : CBd (i + 1) c := ⟨h1, by omega, by omega, by omega, fun x e => ⟨Nat.le_succ_of_le (h5 x e).1, (h5 x e).2⟩⟩
  have dw : ∀ w : Str, (c.ws ++ [w] : List Str).length ≤ 20 * i + 1 := fun w => by
    rw [List.length_append]
    exact Nat.succ_le_succ h4
  unfold callC
  split
  · exact ⟨h1, by show c.pl ≤ _; omega, d0.que, d0.ws, fun x e => nomatch e⟩
  split
  · cases hc : c.wk with
    | none => exact ⟨h1, d0.pl, d0.que, by have := dw c.w0; show (c.ws ++ [_]).length ≤ _; omega, fun x e => nomatch e⟩
    | some x => exact ⟨h1, d0.pl, d0.que, by have := dw x.2.2.1; show (c.ws ++ [_]).length ≤ _; omega, fun y e => d0.wk y (hc.trans e)⟩
  cases hc : c.wk with
  | none =>
    show CBd _ (aloneC way st c)
    unfold aloneC
    split
    · exact ⟨h1, d0.pl, d0.que, d0.ws, fun x e => by cases e; exact ⟨Nat.zero_le _, fun _ h => nomatch h⟩⟩
    split
    · exact ⟨Nat.le_succ_of_le h1, by show c.pl + 1 ≤ _; omega, d0.que, d0.ws, fun x e => d0.wk x e⟩
    split
    · refine ⟨h1, d0.pl, d0.que, ?_, fun x e => d0.wk x e⟩
      have g1 := updAll_len way (c.w0, c.cn) (c.ws, c.kn) (gotQ c)
      have g2 := gotQ_len c
      show (updAll way (c.w0, c.cn) (c.ws, c.kn) (gotQ c)).1.length ≤ _
      have g1 : (updAll way (c.w0, c.cn) (c.ws, c.kn) (gotQ c)).1.length ≤ c.ws.length + (gotQ c).length := g1
      omega
    · exact d0
  | some x =>
    show CBd _ (withinC st x c)
    obtain ⟨h6, h7⟩ := h5 x hc
    unfold withinC
    split
    · exact ⟨h1, d0.pl, d0.que, d0.ws, fun y e => by
        cases e
        refine ⟨?_, h7.snoc (.inl rfl)⟩
        show (x.2.2.2 ++ [_]).length ≤ _
        rw [List.length_append]
        exact Nat.succ_le_succ h6⟩
    split
    · exact ⟨h1, d0.pl, d0.que, d0.ws, fun y e => by
        cases e
        refine ⟨?_, h7.snoc (.inr rfl)⟩
        show (x.2.2.2 ++ [_]).length ≤ _
        rw [List.length_append]
        exact Nat.succ_le_succ h6⟩
    split
    · exact ⟨Nat.le_succ_of_le h1, by show c.pl + 1 ≤ _; omega, d0.que, d0.ws, fun y e => nomatch e⟩
    split
    · exact ⟨h1, d0.pl, d0.que, d0.ws, fun y e => nomatch e⟩
    · exact d0
structure CrOk (c : Cr) : Prop where
  cn : c.cn ≤ c.pl
  pl : c.pl < 500
  que : c.que.length ≤ 50
  po : c.po = none ∨ ∃ p s0, c.po = some p ∧ c.sl = some s0 ∧ s0 ≤ p ∧ p ≤ c.que.length
  ws : c.ws.length < 700
  wk : ∀ x, c.wk = some x → x.2.2.2.length < 500 ∧ LU x.2.2.2
theorem CInv.ok {word : Nat → Str} {k i : Nat} {c : Cr} {s : VS} (h : CInv word k c s) (b : CBd i c) (hi : i ≤ 18) : CrOk c := by
  obtain ⟨h1, h2, h3, h4, h5⟩ := b
  rcases h.li with ⟨_, _, e⟩ | ⟨_, p, s0, g2, g3, g4, g5⟩
  · exact ⟨h1, by omega, by omega, .inl e, by omega, fun x hx => ⟨by have := (h5 x hx).1; omega, (h5 x hx).2⟩⟩
  · exact ⟨h1, by omega, by omega, .inr ⟨p, s0, g2, g3, g4, g5⟩, by omega, fun x hx => ⟨by have := (h5 x hx).1; omega, (h5 x hx).2⟩⟩

end
end CN
end
section
set_option Elab.async false
set_option linter.all false
set_option maxRecDepth 100000
set_option maxHeartbeats 4000000
namespace CN
open PySem PySem.Spec PyProof.Rows L2
local macro_rules | `(tactic| trivial) => `(tactic| exact Led.get (by assumption) 9)
local macro_rules | `(tactic| trivial) => `(tactic| exact Led.get (by assumption) 8)
local macro_rules | `(tactic| trivial) => `(tactic| exact Led.get (by assumption) 7)
local macro_rules | `(tactic| trivial) => `(tactic| exact Led.get (by assumption) 6)
local macro_rules | `(tactic| trivial) => `(tactic| exact Led.get (by assumption) 5)
local macro_rules | `(tactic| trivial) => `(tactic| exact Led.get (by assumption) 4)
local macro_rules | `(tactic| trivial) => `(tactic| exact Led.get (by assumption) 3)
local macro_rules | `(tactic| trivial) => `(tactic| exact Led.get (by assumption) 2)
local macro_rules | `(tactic| trivial) => `(tactic| exact Led.get (by assumption) 1)
local macro_rules | `(tactic| trivial) => `(tactic| exact Led.get (by assumption) 0)
section
variable {P : Program} {w : World} {K : PySem.W.Frag} {mg : Str → Option Value} {base : Heap} [POk P]
def Ab.cr (a : Ab) : Cr := ⟨a.w0, a.cn, a.kn, a.past.length, a.que, a.sl, a.po, a.ws, a.wk.map fun x => (x.bg, x.xn, x.xw, x.stps)⟩
theorem paired_drop {α β : Type} {R : α → β → Prop} : ∀ (n : Nat) {as : List α} {bs : List β}, Paired R as bs → Paired R (as.drop n) (bs.drop n)
  | 0, _, _, h => h
  | n + 1, _, _, .nil => .nil
  | n + 1, _, _, .cons _ t => paired_drop n t
def sp_Keeper_alone (K : PySem.W.Frag) : Sp := fun vs H Q E => ∃ A a st, vs = [.ref (Ad.k A), .str st] ∧ WOk K A H a ∧ CrOk a.cr ∧ a.wk = none ∧ ∀ H' a', WOk K A H' a' → a'.cr = aloneC A.way st a.cr → Q .non H'
theorem sc_Keeper_alone : FnScope ["self", "step"] ["self", "step"] (defScope s_Keeper_alone) := ⟨rfl, rfl, rfl, by decide +kernel, rfl, by decide +kernel, by decide +kernel⟩
theorem ok_Keeper_alone (T : TX w K mg) : FnR P w K mg base CX0 8 (a_Keeper_alone K) (sp_Keeper_alone K) := by
  obtain ⟨fd, F⟩ := T.fn 39 rfl rfl
  refine fR F sc_Keeper_alone (fun _ _ _ _ _ _ us hl => match us, hl with | [_, _], _ => rfl) (fun vs H Q E h => ?_) (fun cdv A outer s H vs Q E hr h => ?_)
  · obtain ⟨A0, a, st, rfl, h, hok, hwk, kk⟩ := h
    rfl
  · obtain ⟨A0, a, st, rfl, h, hok, hwk, kk⟩ := h
    refine ⟨_, (pss_one (ps_if (pt_cmpR op_eq (pv 1) pe_str (nomark _))
        (pss_one (ps_fd (T.cls "Keeper") (T.na "Keeper" "work") (pv 0) (pe_me0 (pe_fd (T.cls "Keeper") (T.na "Keeper" "guest") (pv 0)) (T.cls "Client") (T.me "Client" "begin") (ok_Sender_begin (P := P) T) (hr.mono (by decide)))))
        (pss_one (ps_if (pt_cmpR op_in_seq (pv 1) (pe_tup (pa_cons pe_str (pa_cons pe_str pa_nil))) (by rfl))
          (pss_one (ps_expr (pe_me (pe_fd (T.cls "Keeper") (T.na "Keeper" "guest") (pv 0)) (T.cls "Client") (T.me "Client" "run") (ok_Sender_run (P := P) T) (hr.mono (by decide)) (pa_cons (pe_tup (pa_cons (pv 1) (pa_cons (pe_fd (T.cls "Keeper") (T.na "Keeper" "cell") (pv 0)) pa_nil))) pa_nil))))
          (pss_one (ps_if (pt_cmpR op_eq (pv 1) pe_str (nomark _))
            (pss_one (ps_expr (pe_me (pv 0) (T.cls "Keeper") (T.me "Keeper" "update") (ok_Keeper_update (P := P) T) (hr.mono (by decide)) (pa_cons (pe_me0 (pe_fd (T.cls "Keeper") (T.na "Keeper" "guest") (pv 0)) (T.cls "Client") (T.me "Client" "receive") (ok_Listener_receive (P := P) T) (hr.mono (by decide))) pa_nil))))
            pss_nil)))))), ?_⟩
    have hk := h.k
    have hc := h.c
    rw [hwk] at hk hc
    by_cases hb : st = "begin"
    · refine ⟨_, rfl, rfl, true, congrArg V.bl (sT hb), ?_⟩
      refine ⟨_, rfl, _, _, _, _, rfl, hk, rfl, _, _, _, rfl, hc, rfl, A0.c, A0.dc, A0.S, "ann", a.st, _, A0.ds, A0.r, A0.DC, A0.DM, A0.PL, A0.QL, _, _, rfl, hc, h.S, h.DC, h.PL, fun H1 tx dx sn ro mar f1 n1 n2 n3 n4 m1 m2 m3 m4 c1 t1 sn1 rw1 mk1 => ?_⟩
      have g1 : ∀ {x : Addr} {o : HO}, H x = some o → x ≠ A0.c → H1 x = some o := fun e n => fr1 f1 e n
      refine ⟨_, rfl, A0.k, A0.dk, _, _, rfl, g1 hk (nk hk hc), rfl, lt_b rfl, ?_⟩
      have ktx : tx ≠ A0.k := Ne.symm (ne_of_none hk n1)
      generalize e2 : upd H1 A0.k _ = H2
      have f2 : Fr [A0.k] H1 H2 := by
        rw [← e2]
        exact Fr.upd (.head _)
      have f12 : Fr [A0.c, A0.k] H H2 := (f1.mono (by simp)).trans (f2.mono (by simp))
      have k2 : H2 A0.k = some (KeO K A0.dk A0.c A0.way (.ref tx) a.kn A0.L) := by
        rw [← e2]
        exact upd_same
      refine kk H2 { a with wk := some ⟨tx, dx, sn, ro, mar, a.t, a.past.length, a.cn, a.w0, [], []⟩ } (h.begun f12 (fr1 f2 c1 h.ck) k2 ?_) ?_
      · exact ⟨fr1 f2 t1 ktx, fr1 f2 sn1 (Ne.symm (ne_of_none hk n2)), h.mck.tup f12 h.t, fr1 f2 rw1 (Ne.symm (ne_of_none hk n3)), .nil,
          ⟨Ne.symm (ne_of_none h.PL n3), Ne.symm (ne_of_none h.QL n3), Ne.symm (ne_of_none h.L n3)⟩, ⟨Ne.symm (ne_of_none h.DC n2), Ne.symm (ne_of_none h.DM n2)⟩, ⟨none_of h.bs n1, none_of h.bs n3⟩⟩
      · unfold aloneC
        rw [if_pos hb]
        rfl
    · refine ⟨_, rfl, rfl, false, congrArg V.bl (sF hb), ?_⟩
      refine ⟨_, rfl, ll rfl, fun t0 nt0 => ⟨_, _, rfl, .inr (.of upd_same), rfl, rfl, _, rfl, ?_⟩⟩
      have ein : inV (.str st) [.str "listen", .str "unlisten"] = decide (st = "listen" ∨ st = "unlisten") := by
        show inV (.str st) ((["listen", "unlisten"] : List Str).map V.str) = _
        rw [inV_strs]
        rw [Bool.eq_iff_iff, List.contains_iff_mem, decide_eq_true_iff]
        simp
      rw [ein]
      have s0 := Same.new (o := .tup [.str "listen", .str "unlisten"]) nt0
      have h0 := h.same s0
      generalize upd H t0 (.tup [.str "listen", .str "unlisten"]) = H0 at s0 h0 ⊢
      have hk0 := h0.k
      have hc0 := h0.c
      rw [hwk] at hk0 hc0
      by_cases hl : st = "listen" ∨ st = "unlisten"
      · rw [decide_eq_true hl]
        refine ⟨_, rfl, _, _, _, _, rfl, hk0, rfl, _, _, _, rfl, hc0, rfl, _, rfl, _, rfl, _, _, _, _, rfl, hk0, rfl, ll rfl, fun p1 np1 => ?_⟩
        refine ⟨[.ref A0.c], [.ref p1], rfl, rfl, ll rfl, fun p2 np2 => ?_⟩
        have s1 := (Same.new (o := .tup [.str st, .str "a"]) np1).trans (Same.new (o := .tup [.ref p1]) np2)
        have e1 : upd (upd H0 p1 (.tup [.str st, .str "a"])) p2 (.tup [.ref p1]) p1 = some (.tup [.str st, .str "a"]) := Same.new np2 _ _ upd_same
        have e2 : upd (upd H0 p1 (.tup [.str st, .str "a"])) p2 (.tup [.ref p1]) p2 = some (.tup [.ref p1]) := upd_same
        have h2 := h0.same s1
        generalize upd (upd H0 p1 (.tup [.str st, .str "a"])) p2 (.tup [.ref p1]) = H2 at s1 e1 e2 h2 ⊢
        obtain ⟨stp, q1, q2, q3, q4, q5⟩ : ∃ stp, StpL stp = [.str st, .str "a"] ∧ StpOk stp = true ∧ setS stp = [] ∧ wishS stp = [(kA, .str st)] ∧ sayS stp = [] := by
          rcases hl with rfl | rfl
          · exact ⟨.lis, rfl, rfl, rfl, rfl, rfl⟩
          · exact ⟨.unl, rfl, rfl, rfl, rfl, rfl⟩
        have hc2 := h2.c
        rw [hwk] at hc2
        have hn := hok.cn
        have hq := hok.que
        have hp := hok.pl
        have lq : a.qs.length = a.que.length := Paired.length h.que
        refine ⟨A0.c, A0.dc, A0.S, "ann", a.st, a.po, a.sl, A0.ds, A0.r, A0.DC, A0.DM, A0.PL, A0.QL, p2, [.ref p1], [stp], none, some st, a.t, a.w0, a.cn, [("ann", A0.c, a.po), ("bob", A0.b, none)], a.qs, a.past, rfl, e2, .cons ⟨p1, rfl, q1 ▸ .of e1⟩ .nil, fun s hs => by rw [List.mem_singleton.mp hs]; exact q2, by show 1 ≤ 8; decide, hc2, h2.S, h2.ru,
          by simp [q3]; rfl, by simp [q4]; rfl, .inr (hl.imp (congrArg some) (congrArg some)), by simp [q5], by simp [q5], h2.DC, h2.t, hn, h2.DM, ?_, by show 2 ≤ 8; decide, h2.st, h2.QL, ?_, h2.PL, ?_, Ne.symm h2.ls.1, fun H3 st' qn pv f3 nst c3 es kw eQ pQ eP => ?_⟩
        · intro m hm
          rcases List.mem_cons.mp hm with rfl | hm
          · exact ⟨_, _, _, hc2⟩
          · rw [List.mem_singleton.mp hm]
            exact ⟨_, _, _, h2.b⟩
        · have : a.que.length ≤ 50 := hq
          omega
        · have : a.past.length < 500 := hp
          omega
        · have hqn : qn = [] := by
            have p := pQ
            simp only [List.flatMap_cons, List.flatMap_nil, q5, List.append_nil, List.map_nil] at p
            cases p
            rfl
          rw [hqn, List.append_nil] at eQ
          have w := h2.ran (st' := st') (sl := (behS a.qs.length a.sl a.po (some st)).1) (po := (behS a.qs.length a.sl a.po (some st)).2) (pv := pv) (by
            rw [hwk]
            exact f3.mono (by simp)) nst c3 es kw eQ eP (fr4 f3 (by have e := h2.k; rw [hwk] at e; exact e) (nk h2.k h2.c) (nk h2.k h2.DC) (nk h2.k h2.QL) (nk h2.k h2.PL))
          refine kk H3 _ w ?_
          unfold aloneC
          rw [if_neg hb, if_pos hl, lq]
          unfold Ab.cr
          simp [hwk]
      · rw [decide_eq_false hl]
        by_cases hr' : st = "receive"
        · refine ⟨_, rfl, rfl, true, congrArg V.bl (sT hr'), ?_⟩
          have hq : a.que.length ≤ 50 := hok.que
          refine ⟨_, rfl, _, _, _, rfl, hk0, rfl, _, rfl, _, _, _, _, rfl, hk0, rfl, _, _, _, rfl, hc0, rfl, A0.c, A0.dc, A0.S, "ann", a.st, a.po, a.sl, A0.ds, A0.r, A0.DC, A0.DM, A0.PL, A0.QL, a.qs, a.que, rfl, hc0, h0.S, h0.QL, h0.que, by omega, h0.st, hok.po, fun H1 R f1 nR eR c1 => ?_⟩
          have w1 := h0.got (p := a.po.map fun _ => a.que.length) f1 (by rw [hwk]; exact c1)
          have gq : Paired (QuT K H1) (match a.po with | none => [] | some p => a.qs.drop p) (gotQ a.cr) := by
            have q := w1.que
            cases hp : a.po with
            | none =>
              rw [gotQ_none (c := a.cr) hp]
              exact .nil
            | some p =>
              rw [gotQ_some (c := a.cr) hp]
              exact paired_drop p q
          have lg : (gotQ a.cr).length ≤ a.que.length := gotQ_len a.cr
          have hws : a.ws.length < 700 := hok.ws
          refine ⟨A0.k, A0.dk, A0.c, A0.way, _, a.kn, A0.L, a.ws, R, _, gotQ a.cr, A0.dc, A0.S, "ann", _, a.st, _, A0.ds, A0.r, A0.DC, A0.DM, A0.PL, A0.QL, a.t, a.w0, a.cn, rfl, w1.k, w1.L, by omega, eR, gq, by omega, ?_, w1.c, w1.S, ⟨w1.DC, w1.t⟩, fun H2 f2 e1 e2 => ?_⟩
          · exact Ne.symm (ne_of_none h0.L nR)
          · refine kk H2 _ (w1.log f2 e1 e2) ?_
            unfold aloneC
            rw [if_neg hb, if_neg hl, if_pos hr']
            rfl
        · refine ⟨_, rfl, rfl, false, congrArg V.bl (sF hr'), ?_⟩
          refine kk H0 a h0 ?_
          unfold aloneC
          rw [if_neg hb, if_neg hl, if_neg hr']
    
end
end CN
end
section
set_option Elab.async false
set_option linter.all false
set_option maxRecDepth 100000
set_option maxHeartbeats 4000000
namespace CN
open PySem PySem.Spec PyProof.Rows L2
local macro_rules | `(tactic| trivial) => `(tactic| exact Led.get (by assumption) 9)
local macro_rules | `(tactic| trivial) => `(tactic| exact Led.get (by assumption) 8)
local macro_rules | `(tactic| trivial) => `(tactic| exact Led.get (by assumption) 7)
local macro_rules | `(tactic| trivial) => `(tactic| exact Led.get (by assumption) 6)
local macro_rules | `(tactic| trivial) => `(tactic| exact Led.get (by assumption) 5)
local macro_rules | `(tactic| trivial) => `(tactic| exact Led.get (by assumption) 4)
local macro_rules | `(tactic| trivial) => `(tactic| exact Led.get (by assumption) 3)
local macro_rules | `(tactic| trivial) => `(tactic| exact Led.get (by assumption) 2)
local macro_rules | `(tactic| trivial) => `(tactic| exact Led.get (by assumption) 1)
local macro_rules | `(tactic| trivial) => `(tactic| exact Led.get (by assumption) 0)
section
variable {P : Program} {w : World} {K : PySem.W.Frag} {mg : Str → Option Value} {base : Heap} [POk P]
theorem wish_put (o : Option Str) (z : Str) : putK (wV o) kA (.str z) = wV (some z) := by
  cases o with
  | none => rfl
  | some w =>
    show putK [(kA, V.str w)] kA (.str z) = [(kA, .str z)]
    unfold putK
    simp
theorem wish_all : ∀ (l : List Stp) (o : Option Str), putAll (l.flatMap wishS) (wV o) = wV (l.foldl (fun o s => match s with
  | .lis => some ("listen" : Str)
  | .unl => some ("unlisten" : Str)
  | _ => o) o)
  | [], o => rfl
  | s :: r, o => by
    rw [List.flatMap_cons, List.foldl_cons]
    unfold putAll
    rw [List.foldl_append]
    have ih := wish_all r
    unfold putAll at ih
    cases s with
    | set w => exact ih o
    | say w => exact ih o
    | lis =>
      show (r.flatMap wishS).foldl _ (putK (wV o) kA (.str "listen")) = _
      rw [wish_put]
      exact ih _
    | unl =>
      show (r.flatMap wishS).foldl _ (putK (wV o) kA (.str "unlisten")) = _
      rw [wish_put]
      exact ih _
theorem wish_of (l : List Stp) : putAll (l.flatMap wishS) [] = wV (wlOf l) := wish_all l none
theorem wl_cases (l : List Stp) : wlOf l = none ∨ wlOf l = some ("listen" : Str) ∨ wlOf l = some ("unlisten" : Str) := by
  have : ∀ (l : List Stp) (o : Option Str), (o = none ∨ o = some ("listen" : Str) ∨ o = some ("unlisten" : Str)) → (l.foldl (fun o s => match s with
    | .lis => some ("listen" : Str)
    | .unl => some ("unlisten" : Str)
    | _ => o) o = none ∨ l.foldl (fun o s => match s with
    | .lis => some ("listen" : Str)
    | .unl => some ("unlisten" : Str)
    | _ => o) o = some ("listen" : Str) ∨ l.foldl (fun o s => match s with
    | .lis => some ("listen" : Str)
    | .unl => some ("unlisten" : Str)
    | _ => o) o = some ("unlisten" : Str)) := by
    intro l
    induction l with
    | nil => exact fun o h => h
    | cons s r ih =>
      intro o h
      rw [List.foldl_cons]
      cases s with
      | set w => exact ih o h
      | say w => exact ih o h
      | lis => exact ih _ (.inr (.inl rfl))
      | unl => exact ih _ (.inr (.inr rfl))
  exact this l none (.inl rfl)
theorem LU.set {l : List Stp} (h : LU l) : l.flatMap setS = [] := by
  induction l with
  | nil => rfl
  | cons s r ih =>
    rw [List.flatMap_cons, ih fun x hx => h x (.tail _ hx)]
    rcases h s (.head _) with rfl | rfl <;> rfl
theorem LU.say {l : List Stp} (h : LU l) : l.flatMap sayS = [] := by
  induction l with
  | nil => rfl
  | cons s r ih =>
    rw [List.flatMap_cons, ih fun x hx => h x (.tail _ hx)]
    rcases h s (.head _) with rfl | rfl <;> rfl
def sp_Keeper_within (K : PySem.W.Frag) : Sp := fun vs H Q E => ∃ A a st x, vs = [.ref (Ad.k A), .str st] ∧ WOk K A H a ∧ CrOk a.cr ∧ a.wk = some x ∧ ∀ H' a', WOk K A H' a' → a'.cr = withinC st (x.bg, x.xn, x.xw, x.stps) a.cr → Q .non H'
theorem sc_Keeper_within : FnScope ["self", "step"] ["self", "step"] (defScope s_Keeper_within) := ⟨rfl, rfl, rfl, by decide +kernel, rfl, by decide +kernel, by decide +kernel⟩
theorem ok_Keeper_within (T : TX w K mg) : FnR P w K mg base CX0 7 (a_Keeper_within K) (sp_Keeper_within K) := by
  obtain ⟨fd, F⟩ := T.fn 40 rfl rfl
  refine fR F sc_Keeper_within (fun _ _ _ _ _ _ us hl => match us, hl with | [_, _], _ => rfl) (fun vs H Q E h => ?_) (fun cdv A outer s H vs Q E hr h => ?_)
  · obtain ⟨A0, a, st, x, rfl, h, hok, hx, kk⟩ := h
    rfl
  · obtain ⟨A0, a, st, x, rfl, h, hok, hx, kk⟩ := h
    refine ⟨_, (pss_one (ps_if (pt_cmpR op_eq (pv 1) pe_str (nomark _))
        (pss_one (ps_expr (pe_me (pe_fd (T.cls "Keeper") (T.na "Keeper" "work") (pv 0)) (T.cls "Transaction") (T.me "Transaction" "listen") (ok_Transaction_listen (P := P) T) (hr.mono (by decide)) (pa_cons (pe_fd (T.cls "Keeper") (T.na "Keeper" "cell") (pv 0)) pa_nil))))
        (pss_one (ps_if (pt_cmpR op_eq (pv 1) pe_str (nomark _))
          (pss_one (ps_expr (pe_me (pe_fd (T.cls "Keeper") (T.na "Keeper" "work") (pv 0)) (T.cls "Transaction") (T.me "Transaction" "unlisten") (ok_Transaction_unlisten (P := P) T) (hr.mono (by decide)) (pa_cons (pe_fd (T.cls "Keeper") (T.na "Keeper" "cell") (pv 0)) pa_nil))))
          (pss_one (ps_if (pt_cmpR op_eq (pv 1) pe_str (nomark _))
            (pss_cons (ps_expr (pe_me0 (pe_fd (T.cls "Keeper") (T.na "Keeper" "work") (pv 0)) (T.cls "Transaction") (T.me "Transaction" "commit") (ok_Transaction_commit (P := P) T) (hr.mono (by decide))))
            (pss_one (ps_fd (T.cls "Keeper") (T.na "Keeper" "work") (pv 0) pe_non)))
            (pss_one (ps_if (pt_cmpR op_eq (pv 1) pe_str (nomark _))
              (pss_cons (ps_expr (pe_me0 (pe_fd (T.cls "Keeper") (T.na "Keeper" "work") (pv 0)) (T.cls "Transaction") (T.me "Transaction" "rollback") (ok_Transaction_rollback (P := P) T) (hr.mono (by decide))))
              (pss_one (ps_fd (T.cls "Keeper") (T.na "Keeper" "work") (pv 0) pe_non)))
              pss_nil)))))))), ?_⟩
    have hk := h.k
    have hc := h.c
    rw [hx] at hk hc
    have t := h.tx x hx
    have hlen : x.rs.length = x.stps.length := Paired.length t.rows
    obtain ⟨hl5, hlu⟩ := hok.wk (x.bg, x.xn, x.xw, x.stps) (by unfold Ab.cr; rw [hx]; rfl)
    have hl5 : x.stps.length < 500 := hl5
    have hlu : LU x.stps := hlu
    by_cases hb : st = "listen"
    · refine ⟨_, rfl, rfl, true, congrArg V.bl (sT hb), ?_⟩
      refine ⟨_, rfl, _, _, _, _, rfl, hk, rfl, _, _, _, rfl, t.tx, rfl, _, rfl, _, _, _, _, rfl, hk, rfl, [.ref x.tx], [.str "a"], rfl, rfl, ll rfl, fun p2 n2 => ?_⟩
      have h2 := h.same (Same.new (o := .tup [.str "a"]) n2)
      have t2 := h2.tx x hx
      refine ⟨x.tx, x.dx, A0.S, A0.c, x.sn, _, x.ro, x.mar, p2, x.rs, rfl, t2.tx, upd_same, t2.ro, by omega, fun H' q f e1 e2 => ?_⟩
      refine kk H' _ (h2.rowed hx f (s := .lis) e1 ⟨q, .lis, rfl, e2, rfl⟩) ?_
      unfold withinC
      rw [if_pos hb]
      rfl
    refine ⟨_, rfl, rfl, false, congrArg V.bl (sF hb), ?_⟩
    by_cases hu : st = "unlisten"
    · refine ⟨_, rfl, rfl, true, congrArg V.bl (sT hu), ?_⟩
      refine ⟨_, rfl, _, _, _, _, rfl, hk, rfl, _, _, _, rfl, t.tx, rfl, _, rfl, _, _, _, _, rfl, hk, rfl, [.ref x.tx], [.str "a"], rfl, rfl, ll rfl, fun p2 n2 => ?_⟩
      have h2 := h.same (Same.new (o := .tup [.str "a"]) n2)
      have t2 := h2.tx x hx
      refine ⟨x.tx, x.dx, A0.S, A0.c, x.sn, _, x.ro, x.mar, p2, x.rs, rfl, t2.tx, upd_same, t2.ro, by omega, fun H' q f e1 e2 => ?_⟩
      refine kk H' _ (h2.rowed hx f (s := .unl) e1 ⟨q, .unl, rfl, e2, rfl⟩) ?_
      unfold withinC
      rw [if_neg hb, if_pos hu]
      rfl
    refine ⟨_, rfl, rfl, false, congrArg V.bl (sF hu), ?_⟩
    by_cases hm : st = "commit"
    · refine ⟨_, rfl, rfl, true, congrArg V.bl (sT hm), ?_⟩
      obtain ⟨rows, r1, r2, r3, r4, r5⟩ := rows_of t.rows
      have hn : a.cn ≤ a.past.length := hok.cn
      have hq : a.que.length ≤ 50 := hok.que
      have hp : a.past.length < 500 := hok.pl
      have lq : a.qs.length = a.que.length := Paired.length h.que
      have hsay : rows.flatMap outSay = [] := by
        rw [hlu.say] at r4
        exact List.length_eq_zero_iff.mp (Paired.length r4)
      refine ⟨_, rfl, _, _, _, _, rfl, hk, rfl, _, _, _, rfl, t.tx, rfl, x.tx, x.dx, A0.S, A0.c, x.sn, x.bg, x.ro, x.mar, A0.dc, "ann", a.st, a.po, a.sl, A0.ds, A0.r, A0.DC, A0.DM, A0.PL, A0.QL, x.rs, rows, none, wlOf x.stps, a.t, a.w0, a.cn, [("ann", A0.c, a.po), ("bob", A0.b, none)], a.qs, a.past, rfl, t.tx, hc, h.S, h.ru, t.ro, r1, by omega,
        by rw [r2, hlu.set]; rfl, by rw [r3]; exact wish_of _, wl_cases _, by rw [hsay]; exact .inl rfl, h.DC, h.t, (fun z => nomatch z), h.DM, ?_, by show 2 ≤ 8; decide, h.st, h.QL, by omega, h.PL, by omega, Ne.symm h.ls.1, fun H1 st' qn pv f nst tx1 c1 s1 kw eQ pQ eP => ?_⟩
      · intro m hm
        rcases List.mem_cons.mp hm with rfl | hm
        · exact ⟨_, _, _, hc⟩
        · rw [List.mem_singleton.mp hm]
          exact ⟨_, _, _, h.b⟩
      · have hqn : qn = [] := by
          rw [hsay] at pQ
          cases pQ
          rfl
        rw [hqn, List.append_nil] at eQ
        have k1 : H1 A0.k = some (KeO K A0.dk A0.c A0.way (.ref x.tx) a.kn A0.L) := f _ _ hk (by simp [nk hk t.tx, nk hk hc, nk hk h.DC, nk hk h.QL, nk hk h.PL])
        refine ⟨_, rfl, A0.k, A0.dk, _, _, rfl, k1, rfl, lt_b rfl, ?_⟩
        generalize e2 : upd H1 A0.k _ = H2
        have f2 : Fr [A0.k] H1 H2 := by
          rw [← e2]
          exact Fr.upd (.head _)
        have k2 : H2 A0.k = some (KeO K A0.dk A0.c A0.way .non a.kn A0.L) := by
          rw [← e2]
          exact upd_same
        have w := h.ran (H' := H2) (st' := st') (sl := (behS a.qs.length a.sl a.po (wlOf x.stps)).1) (po := (behS a.qs.length a.sl a.po (wlOf x.stps)).2) (pv := pv) (by
          rw [hx]
          exact (f.mono (by simp [wkA])).trans (f2.mono (by simp))) nst (fr1 f2 c1 h.ck) (fr1 f2 s1 (nk s1 k1)) (fr1 f2 kw (nk kw k1)) (fr1 f2 eQ (nk eQ k1)) (fr1 f2 eP (nk eP k1)) k2
        refine kk H2 _ w ?_
        unfold withinC
        rw [if_neg hb, if_neg hu, if_pos hm, lq]
        unfold Ab.cr
        simp
    refine ⟨_, rfl, rfl, false, congrArg V.bl (sF hm), ?_⟩
    by_cases hr' : st = "rollback"
    · refine ⟨_, rfl, rfl, true, congrArg V.bl (sT hr'), ?_⟩
      have ntc : x.tx ≠ A0.c := nk t.tx hc
      refine ⟨_, rfl, _, _, _, _, rfl, hk, rfl, _, _, _, rfl, t.tx, rfl, x.tx, x.dx, A0.S, A0.c, x.sn, _, x.ro, x.mar, A0.dc, "ann", _, a.st, _, rfl, t.tx, hc, ntc, fun H1 f t1 c1 => ?_⟩
      have k1 : H1 A0.k = some (KeO K A0.dk A0.c A0.way (.ref x.tx) a.kn A0.L) := fr2 f hk (nk hk t.tx) (nk hk hc)
      refine ⟨_, rfl, A0.k, A0.dk, _, _, rfl, k1, rfl, lt_b rfl, ?_⟩
      generalize e2 : upd H1 A0.k _ = H2
      have f2 : Fr [A0.k] H1 H2 := by
        rw [← e2]
        exact Fr.upd (.head _)
      have k2 : H2 A0.k = some (KeO K A0.dk A0.c A0.way .non a.kn A0.L) := by
        rw [← e2]
        exact upd_same
      refine kk H2 _ (h.dropped hx ((f.mono (by simp)).trans (f2.mono (by simp))) (fr1 f2 c1 h.ck) k2) ?_
      unfold withinC
      rw [if_neg hb, if_neg hu, if_neg hm, if_pos hr']
      rfl
    · refine ⟨_, rfl, rfl, false, congrArg V.bl (sF hr'), ?_⟩
      refine kk H a h ?_
      unfold withinC
      rw [if_neg hb, if_neg hu, if_neg hm, if_neg hr']
    
end
end CN
end
section
set_option Elab.async false
set_option linter.all false
set_option maxRecDepth 100000
set_option maxHeartbeats 4000000
namespace CN
open PySem PySem.Spec PyProof.Rows L2
local macro_rules | `(tactic| trivial) => `(tactic| exact Led.get (by assumption) 9)
local macro_rules | `(tactic| trivial) => `(tactic| exact Led.get (by assumption) 8)
local macro_rules | `(tactic| trivial) => `(tactic| exact Led.get (by assumption) 7)
local macro_rules | `(tactic| trivial) => `(tactic| exact Led.get (by assumption) 6)
local macro_rules | `(tactic| trivial) => `(tactic| exact Led.get (by assumption) 5)
local macro_rules | `(tactic| trivial) => `(tactic| exact Led.get (by assumption) 4)
local macro_rules | `(tactic| trivial) => `(tactic| exact Led.get (by assumption) 3)
local macro_rules | `(tactic| trivial) => `(tactic| exact Led.get (by assumption) 2)
local macro_rules | `(tactic| trivial) => `(tactic| exact Led.get (by assumption) 1)
local macro_rules | `(tactic| trivial) => `(tactic| exact Led.get (by assumption) 0)
section
variable {P : Program} {w : World} {K : PySem.W.Frag} {mg : Str → Option Value} {base : Heap} [POk P]
theorem callC_ws (way st : Str) (c : Cr) : (callC way st c).ws.length ≤ c.ws.length + c.que.length + 1 := by
  have h1 : (updAll way (c.w0, c.cn) (c.ws, c.kn) (gotQ c)).1.length ≤ c.ws.length + (gotQ c).length := updAll_len way (c.w0, c.cn) (c.ws, c.kn) (gotQ c)
  have h2 := gotQ_len c
  unfold callC
  split
  · show c.ws.length ≤ _
    omega
  split
  · split
    · show (c.ws ++ [_]).length ≤ _
      rw [List.length_append]
      show c.ws.length + 1 ≤ _
      omega
    · show (c.ws ++ [_]).length ≤ _
      rw [List.length_append]
      show c.ws.length + 1 ≤ _
      omega
  split
  · unfold aloneC
    split
    · show c.ws.length ≤ _
      omega
    split
    · show c.ws.length ≤ _
      omega
    split
    · show (updAll way (c.w0, c.cn) (c.ws, c.kn) (gotQ c)).1.length ≤ _
      omega
    · omega
  · unfold withinC
    split
    · show c.ws.length ≤ _
      omega
    split
    · show c.ws.length ≤ _
      omega
    split
    · show c.ws.length ≤ _
      omega
    split
    · show c.ws.length ≤ _
      omega
    · omega
def sp_Keeper___call__ (K : PySem.W.Frag) : Sp := fun vs H Q E => ∃ A a st, vs = [.ref (Ad.k A), .str st] ∧ WOk K A H a ∧ CrOk a.cr ∧ (lSTEPS.contains st = true ∨ st = "other") ∧ ∀ H' a', WOk K A H' a' → a'.cr = callC A.way st a.cr → Q (heldV a'.ws) H'
theorem sc_Keeper___call__ : FnScope ["self", "step"] ["self", "step"] (defScope s_Keeper___call__) := ⟨rfl, rfl, rfl, by decide +kernel, rfl, by decide +kernel, by decide +kernel⟩
theorem ok_Keeper___call__ (T : TX w K mg) : FnR P w K mg base CX0 9 (a_Keeper___call__ K) (sp_Keeper___call__ K) := by
  obtain ⟨fd, F⟩ := T.fn 37 rfl rfl
  refine fR F sc_Keeper___call__ (fun _ _ _ _ _ _ us hl => match us, hl with | [_, _], _ => rfl) (fun vs H Q E h => ?_) (fun cdv A outer s H vs Q E hr h => ?_)
  · obtain ⟨A0, a, st, rfl, h, hok, hst, kk⟩ := h
    rfl
  · obtain ⟨A0, a, st, rfl, h, hok, hst, kk⟩ := h
    refine ⟨_, (pss_cons (ps_if (PW.pt (pw_and (pt_not (pt_val (pe_cf (ok_is_mirror_step (P := P) T) (hr.mono (by decide)) (by rfl) (T.gf "is_mirror_step") (pa_cons (pv 1) pa_nil)))) (pw_and1 (pt_cmpR op_ne (pv 1) pe_str (nomark _)))))
        (pss_one ps_never)
        pss_nil)
      (pss_cons (ps_if (pt_cmpR op_eq (pv 1) pe_str (nomark _))
        (pss_cons (ps_expr (pe_me0 (pe_fd (T.cls "Keeper") (T.na "Keeper" "guest") (pv 0)) (T.cls "Client") (T.me "Client" "disconnect") (ok_Listener_disconnect (P := P) T) (hr.mono (by decide))))
        (pss_one (ps_fd (T.cls "Keeper") (T.na "Keeper" "work") (pv 0) pe_non)))
        (pss_one (ps_if (pt_cmpR op_eq (pv 1) (pe_gstr rfl (T.gstr "READ" "read")) (nomark _))
          (pss_one (ps_expr (pe_me (pv 0) (T.cls "Keeper") (T.me "Keeper" "keep") (ok_Keeper_keep (P := P) T) (hr.mono (by decide)) (pa_cons (pe_ifExp (pt_cmpR op_isN (pe_fd (T.cls "Keeper") (T.na "Keeper" "work") (pv 0)) pe_non (nomark _)) (pe_fd (T.cls "Store") (T.na "Store" "cells") (pe_fd (T.cls "Client") (T.na "Client" "store") (pe_fd (T.cls "Keeper") (T.na "Keeper" "guest") (pv 0)))) (pe_fd (T.cls "Transaction") (T.na "Transaction" "snapshot") (pe_fd (T.cls "Keeper") (T.na "Keeper" "work") (pv 0)))) pa_nil))))
          (pss_one (ps_if (pt_cmpR op_isN (pe_fd (T.cls "Keeper") (T.na "Keeper" "work") (pv 0)) pe_non (nomark _))
            (pss_one (ps_expr (pe_me (pv 0) (T.cls "Keeper") (T.me "Keeper" "alone") (ok_Keeper_alone (P := P) T) (hr.mono (by decide)) (pa_cons (pv 1) pa_nil))))
            (pss_one (ps_expr (pe_me (pv 0) (T.cls "Keeper") (T.me "Keeper" "within") (ok_Keeper_within (P := P) T) (hr.mono (by decide)) (pa_cons (pv 1) pa_nil)))))))))
      (pss_one (ps_ret (pe_pr (pv 0) (T.cls "Keeper") T.held (ok_Keeper_held (P := P) T) (hr.mono (by decide))))))), ?_⟩
    have lws : ∀ a' : Ab, a'.cr = callC A0.way st a.cr → a'.ws.length < 1000 := fun a' e => by
      have h1 := callC_ws A0.way st a.cr
      rw [← e] at h1
      have h2 : a.ws.length < 700 := hok.ws
      have h3 : a.que.length ≤ 50 := hok.que
      have h1 : a'.ws.length ≤ a.ws.length + a.que.length + 1 := h1
      omega
    refine ⟨_, rfl, _, rfl, _, rfl, ?_⟩
    have hk := h.k
    have hc := h.c
    rcases (show (lSTEPS.contains st = false ∧ st = "other") ∨ lSTEPS.contains st = true by
      cases e : lSTEPS.contains st with
      | false => exact .inl ⟨rfl, hst.elim (fun z => nomatch (e.symm.trans z)) id⟩
      | true => exact .inr rfl) with ⟨hb, ho⟩ | hb
    all_goals rw [hb]
    all_goals try refine ⟨_, rfl, rfl, false, congrArg (fun b => V.bl (!b)) (sT ho), ?_⟩
    all_goals
      by_cases hd : st = "disconnect"
      · refine ⟨_, rfl, rfl, true, congrArg V.bl (sT hd), ?_⟩
        refine ⟨_, rfl, _, _, _, _, rfl, hk, rfl, _, _, _, rfl, hc, rfl, A0.c, A0.dc, A0.S, "ann", wkV a.wk, a.st, _, rfl, hc, ?_, fun H1 st' f n1 e1 c1 => ?_⟩
        · cases hx : a.wk with
          | none => exact .inl rfl
          | some x => exact .inr ⟨x.tx, x.dx, x.sn, _, x.ro, x.mar, rfl, (h.tx x hx).tx, nk (h.tx x hx).tx hc⟩
        · have k1 : H1 A0.k = some (KeO K A0.dk A0.c A0.way (wkV a.wk) a.kn A0.L) := f _ _ hk (by
            cases hx : a.wk with
            | none => simpa [wkV, wkL] using nk hk hc
            | some x => simpa [wkV, wkL] using ⟨nk hk hc, nk hk (h.tx x hx).tx⟩)
          refine ⟨_, rfl, A0.k, A0.dk, _, _, rfl, k1, rfl, lt_b rfl, ?_⟩
          generalize e2 : upd H1 A0.k _ = H2
          have f2 : Fr [A0.k] H1 H2 := by
            rw [← e2]
            exact Fr.upd (.head _)
          have k2 : H2 A0.k = some (KeO K A0.dk A0.c A0.way .non a.kn A0.L) := by
            rw [← e2]
            exact upd_same
          have w := h.gone (H' := H2) (st' := st') (by
            refine (f.mono fun b hb => ?_).trans (f2.mono (by simp))
            cases hx : a.wk with
            | none => rw [hx] at hb; simp [wkA, wkV, wkL] at hb ⊢; simp [hb]
            | some x => rw [hx] at hb; simp [wkA, wkV, wkL] at hb ⊢; rcases hb with hb | hb <;> simp [hb]) n1 (fr1 f2 c1 h.ck) (fr1 f2 e1 (nk e1 k1)) k2
          have e : Ab.cr { a with st := st', sl := none, po := none, wk := none } = callC A0.way st a.cr := by
            unfold callC
            rw [if_pos hd]
            rfl
          exact ⟨_, rfl, _, _, _, rfl, (w).k, A0.k, A0.dk, A0.c, A0.way, _, _, A0.L, _, rfl, (w).k, (w).L, lws _ (e), kk _ _ (w) (e)⟩
      refine ⟨_, rfl, rfl, false, congrArg V.bl (sF hd), ?_⟩
      by_cases hr' : st = "read"
      · refine ⟨_, rfl, rfl, true, congrArg V.bl (sT hr'), ?_⟩
        have hws : a.ws.length < 700 := hok.ws
        cases hx : a.wk with
        | none =>
          rw [hx] at hk hc
          have e : Ab.cr { a with ws := a.ws ++ [a.w0], kn := a.cn } = callC A0.way st a.cr := by
            unfold callC
            rw [if_neg hd, if_pos hr']
            unfold Ab.cr
            rw [hx]
            rfl
          refine ⟨_, rfl, _, _, _, rfl, hk, rfl, ?_⟩
          refine ⟨_, rfl, _, _, _, _, rfl, hk, rfl, rfl, true, rfl, ?_⟩
          refine ⟨_, rfl, _, _, _, _, rfl, hk, rfl, _, _, _, _, rfl, hc, rfl, _, _, _, _, rfl, h.S, rfl, A0.k, A0.dk, A0.c, A0.way, _, _, A0.L, _, A0.DC, a.t, a.w0, a.cn, rfl, hk, h.L, by omega, h.DC, h.t, fun H1 f e1 e2 => ?_⟩
          have w := h.log f e1 (by rw [hx]; exact e2)
          exact ⟨_, rfl, _, _, _, rfl, (w).k, A0.k, A0.dk, A0.c, A0.way, _, _, A0.L, _, rfl, (w).k, (w).L, lws _ (e), kk _ _ (w) (e)⟩
        | some x =>
          rw [hx] at hk hc
          have t := h.tx x hx
          have e : Ab.cr { a with ws := a.ws ++ [x.xw], kn := x.xn } = callC A0.way st a.cr := by
            unfold callC
            rw [if_neg hd, if_pos hr']
            unfold Ab.cr
            rw [hx]
            rfl
          refine ⟨_, rfl, _, _, _, rfl, hk, rfl, ?_⟩
          refine ⟨_, rfl, _, _, _, _, rfl, hk, rfl, rfl, false, rfl, ?_⟩
          refine ⟨_, rfl, _, _, _, _, rfl, hk, rfl, _, _, _, _, rfl, t.tx, rfl, A0.k, A0.dk, A0.c, A0.way, _, _, A0.L, _, x.sn, x.tS, x.xw, x.xn, rfl, hk, h.L, by omega, t.sn, t.tS, fun H1 f e1 e2 => ?_⟩
          have w := h.log f e1 (by rw [hx]; exact e2)
          exact ⟨_, rfl, _, _, _, rfl, (w).k, A0.k, A0.dk, A0.c, A0.way, _, _, A0.L, _, rfl, (w).k, (w).L, lws _ (e), kk _ _ (w) (e)⟩
      refine ⟨_, rfl, rfl, false, congrArg V.bl (sF hr'), ?_⟩
      cases hx : a.wk with
      | none =>
        rw [hx] at hk
        refine ⟨_, rfl, _, _, _, _, rfl, hk, rfl, rfl, true, rfl, ?_⟩
        refine ⟨_, rfl, _, _, _, rfl, hk, rfl, _, rfl, A0, a, st, rfl, h, hok, hx, fun H1 a1 w e0 => ?_⟩
        have e : a1.cr = callC A0.way st a.cr := by
          rw [e0]
          unfold callC
          rw [if_neg hd, if_neg hr']
          show _ = (match (a.wk.map fun x => (x.bg, x.xn, x.xw, x.stps)) with
            | none => aloneC A0.way st a.cr
            | some x => withinC st x a.cr)
          rw [hx]
          rfl
        exact ⟨_, rfl, _, _, _, rfl, (w).k, A0.k, A0.dk, A0.c, A0.way, _, _, A0.L, _, rfl, (w).k, (w).L, lws _ (e), kk _ _ (w) (e)⟩
      | some x =>
        rw [hx] at hk
        refine ⟨_, rfl, _, _, _, _, rfl, hk, rfl, rfl, false, rfl, ?_⟩
        refine ⟨_, rfl, _, _, _, rfl, hk, rfl, _, rfl, A0, a, st, x, rfl, h, hok, hx, fun H1 a1 w e0 => ?_⟩
        have e : a1.cr = callC A0.way st a.cr := by
          rw [e0]
          unfold callC
          rw [if_neg hd, if_neg hr']
          show _ = (match (a.wk.map fun x => (x.bg, x.xn, x.xw, x.stps)) with
            | none => aloneC A0.way st a.cr
            | some x => withinC st x a.cr)
          rw [hx]
          rfl
        exact ⟨_, rfl, _, _, _, rfl, (w).k, A0.k, A0.dk, A0.c, A0.way, _, _, A0.L, _, rfl, (w).k, (w).L, lws _ (e), kk _ _ (w) (e)⟩
    
end
end CN
end
section
set_option Elab.async false
set_option linter.all false
set_option maxRecDepth 100000
set_option maxHeartbeats 4000000
/-! C(e, m = .., k = ..): a def (self, r, *, m, **d), d a dict of the one keyword that no parameter names -/
namespace CN
open PySem PySem.Spec PyProof.Rows L2
theorem update_pushed (h : Heap) (o : Obj) (f : Obj → Obj) : (h.push o).update h.objs.size f = h.push (f o) := by
  obtain ⟨objs, life⟩ := h
  simp only [Heap.update, Heap.push, Heap.mk.injEq, and_true]
  apply Array.ext_getElem?
  intro i
  simp only [Array.getElem?_modify, Array.getElem?_push]
  by_cases h1 : objs.size = i
  · subst h1
    simp
  · have h2 : i ≠ objs.size := fun e => h1 e.symm
    simp [h1, h2]
theorem vals2 {a b : V} {us : List Value} (r : Vals [a, b] us) : ∃ u1 u2, us = [u1, u2] ∧ L2.RelV a u1 ∧ L2.RelV b u2 := by
  cases r with
  | cons r1 rr =>
    cases rr with
    | cons r2 rr2 =>
      cases rr2
      exact ⟨_, _, rfl, r1, r2⟩
section
variable {P : Program} {w : World} {K : PySem.W.Frag} {mg : Str → Option Value} {base : Heap} {x qual : Str} {params : Arguments} {body : List Stmt} {scope : Scope} {f : Addr} {fd : FuncData} {kws : List (Str × V)}
/-- a def called with values and keywords -/
def FnKw (P : Program) (w : World) (K : PySem.W.Frag) (mg : Str → Option Value) (base : Heap) (CX : CXT) (k : Nat) (f : Addr) (ks : List Str) (sp : List V → List V → Hp → VK → XK → Prop) : Prop :=
  ∀ (A : Around) (outer : List Env) (s : Shared) (H : Hp) (us ws : List Value) (vs zs : List V) (Q : VK) (E : XK), Room k A → Env0 P w K mg base A outer s H → Vals vs us → Vals zs ws → sp vs zs H Q E →
    codeAny (model P w) A (.call (.ref f) ⟨us, ks.zip ws⟩) (CR CX outer P w H s Q E) s
theorem fSt {N : List Str} {p1 p2 m kn pd : Str} {k : Nat} {sp : Sp} (F : FunD K x qual params body scope [] kws f fd) (S : FnScope N [p1, p2, m, pd] scope)
    (hb : ∀ (kV doc pm : Value) (an : Option Addr) (cdv ct u1 u2 z1 z2 : Value), bindArgs (PySem.W.fnOf x qual params body scope .none kV doc pm an cdv ct) ⟨[u1, u2], [(m, z1), (kn, z2)]⟩ =
      ((alloc ({ cls := .type "dict", data := .dict #[] } : Obj) : Sem Addr) >>= fun d => (forIn [(kn, z2)] PUnit.unit fun (y : Str × Value) _ => (nsSet d y.1 y.2 >>= fun _ => pure (ForInStep.yield PUnit.unit))) >>= fun _ => pure [(p1, u1), (p2, u2), (m, z1), (pd, Value.ref d)]))
    (hbody : ∀ (cdv : Value) (A : Around) (outer : List Env) (s : Shared) (H : Hp) (vs : List V) (Q : VK) (E : XK), Room k (A.deeper (envOfC qual scope s.heap.objs.size f cdv)) → sp vs H Q E →
      ∃ t, PSs (cxOf CX0 P w K mg base N qual scope f cdv A outer s H E).nox body t ∧ t { nx := fun _ H' => Q .non H', rt := Q } (start N vs) H) :
    FnKw P w K mg base CX0 (k + 1) f [m, kn] (fun vs zs H Q E => ∃ v1 v2 y1 y2, vs = [v1, v2] ∧ zs = [y1, y2] ∧ ∀ d, H d = none → sp [v1, v2, y1, .ref d] (upd H d (.dK [(.inr kn, y2)])) Q E) := by
  intro A outer s H us ws vs zs Q E hr e0 r rz hsp
  obtain ⟨v1, v2, y1, y2, rfl, rfl, hq⟩ := hsp
  obtain ⟨oc, od, dV, kV, doc, pm, an, cdv, ct, osl, rfl, lk, hcd, hD, hK⟩ := F.ex
  rcases hD with ⟨_, rfl⟩ | ⟨e, _⟩
  · obtain ⟨u1, u2, rfl, r1, r2⟩ := vals2 r
    obtain ⟨w1, w2, rfl, z1, z2⟩ := vals2 rz
    have hn : H s.heap.objs.size = none := e0.hok.fresh (Nat.le_refl _)
    refine StX.run_bnd lk hcd S hr e0 (G := fun xs H2 => ∃ d, H d = none ∧ xs = [v1, v2, y1, V.ref d] ∧ H2 = upd H d (.dK [(.inr kn, y2)])) (fun A' Ex Q' h => ?_) fun s2 H2 xs ⟨d, hd, ex, eH⟩ hr' => ?_
    · show wpAny _ _ (bindArgs _ ⟨[u1, u2], [(m, w1), (kn, w2)]⟩) _ _ _
      rw [hb]
      refine wpAny_bind (wpAny_alloc (wpAny_bind ?_))
      have D : (s.heap.push ({ cls := .type "dict", data := .dict #[] } : Obj)).get? s.heap.objs.size = some (PySem.W.dictOf [] 0) := Heap.get?_push_size _ rfl
      rw [List.forIn_cons]
      refine wpAny_bind (wpAny_bind ?_)
      unfold nsSet
      refine wpAny_bind (wpAny_bind (wpAny_askSetting (wpAny_pure (wpAny_bind (wpAny_mkText (wpAny_bind (wpAny_loadPart D ?_)))))))
      refine wpAny_bind (wpAny_pure ?_)
      refine wpAny_updatePart D (wpAny_pure ?_)
      show wpAny _ _ (forIn ([] : List (Str × Value)) _ _) _ _ _
      rw [List.forIn_nil]
      refine wpAny_pure (wpAny_pure ?_)
      rw [update_pushed]
      have new : ObjOk P w (upd H s.heap.objs.size (.dK [(.inr kn, y2)])) (s.heap.push (Obj.putName kn (PyData.keyHash w.params kn) (.str kn s.toks) w2 ({ cls := .type "dict", data := .dict #[] } : Obj))) s.heap.objs.size (.dK [(.inr kn, y2)]) := by
        refine ⟨by rw [sizeLine_eq]; show 1 ≤ 16777216; decide, beq_eq_false_iff_ne.mpr (Ne.symm (Nat.ne_of_lt (StX.env0_big e0))), [(.inr kn, w2)], .cons ⟨rfl, z2⟩ .nil, ?_⟩
        rw [show Obj.putName kn (PyData.keyHash w.params kn) (.str kn s.toks) w2 ({ cls := .type "dict", data := .dict #[] } : Obj) = PySem.W.dictOf [⟨PyData.keyHash w.params kn, .str kn s.toks, w2⟩] 1 from PySem.W.putName_dict _ _ _ _ [] 0]
        refine ⟨_, #[⟨PyData.keyHash w.params kn, .str kn s.toks, w2⟩], 1, Heap.get?_push_size _ rfl, ⟨rfl, rfl, rfl⟩, rfl, fun en he => ?_, .cons (keyIs_str kn s.toks) rfl .nil, by simp⟩
        have he : en = ⟨PyData.keyHash w.params kn, .str kn s.toks, w2⟩ := by simpa using he
        subst he
        exact ⟨.inr kn, keyIs_str kn s.toks, rfl⟩
      have e1 := StX.env0_laid e0 new
      have un := StX.un_laid (fs := frs outer) (s := s) (o := Obj.putName kn (PyData.keyHash w.params kn) (.str kn s.toks) w2 ({ cls := .type "dict", data := .dict #[] } : Obj)) (u := .dK [(.inr kn, y2)]) hn
      have z := h { s with heap := s.heap.push (Obj.putName kn (PyData.keyHash w.params kn) (.str kn s.toks) w2 ({ cls := .type "dict", data := .dict #[] } : Obj)), toks := s.toks + 1 } _ [v1, v2, y1, V.ref s.heap.objs.size] [u1, u2, w1, Value.ref s.heap.objs.size]
        ⟨e1.frames, e1.mod, e1.bs, e1.bsz, e1.funs, e1.frf, e1.hok, e1.bare⟩ un rfl (fun e s' => fun q => q) (.cons r1 (.cons r2 (.cons z1 (.cons rfl .nil)))) rfl ⟨_, hn, rfl, rfl⟩
      exact z
    · subst ex eH
      exact (hbody cdv A outer s2 _ _ Q E hr' (hq d hd)).imp fun t ⟨h1, h2⟩ => ⟨h1.nox, h2⟩
  · exact absurd rfl e
end
/-- C(e, .., k = v, ..) -/
def tMakeSt (C : Addr) (m : Nat) (sp : List V → List V → Hp → VK → XK → Prop) (t tk : TA) : TE := fun σ H Q => t σ H fun vs H1 => tk σ H1 fun zs H2 => zs.length = m ∧ ∀ x dx, H2 x = none → H2 dx = none → dx ≠ x →
  sp (.ref x :: vs) zs (upd (upd H2 dx (.own x)) x (.ins C dx [])) (fun v H3 => v = .non ∧ Q (.ref x) H3) E0
section
variable {X : Cx} {k : Nat} {f C : Addr} {ks : List Str} {sp : List V → List V → Hp → VK → XK → Prop} {x : Str} {p pos : Pos} {e : Expr} {es : List Expr} {kws : List Keyword} {t tk : TA}
theorem pe_makeSt (M : Mk X.K C f) (F : FnKw X.prog X.w X.K X.mg X.base CX0 k f ks sp) (hr : Room (k + 1) X.A) (hg : Gl X x) (hm : X.mg x = some (.ref C)) (ha : PA X (e :: es) t) (hkw : PK X kws tk)
    (hall : (backToKw pos (keywordEach kws X.env)).all (·.1.isSome) = true := by rfl) (hks : (backToKw pos (keywordEach kws X.env)).filterMap (·.1) = ks := by rfl) (hdb : (x == ("__debug__" : Str)) = false := by decide)
    (he : starEach (e :: es) X.env = (false, eval e X.env) :: starEach es X.env := by rfl) (hpl : ((backTo pos (starEach (e :: es) X.env)).any (·.1) || (backToKw pos (keywordEach kws X.env)).any (·.1.isNone)) = false := by rfl) :
    PE X (.Call (.Name x p) (e :: es) kws pos) (tMakeSt C ks.length sp t tk) := by
  refine ⟨fun pins s σ H Q I h => ?_⟩
  refine wpAny_Call_Name_kw (ld_glob I hg hm ?_ hdb)
  refine PySem.W.callWith_KW (h₀ := X.base) I.ok.mod.kin M.kp hall (thn (ha.run pos pins s σ H _ I h) fun us s1 ⟨vs, H1, I1, r, q⟩ => ?_) hpl he
  refine thn (hkw.run pos pins s1 σ H1 _ I1 q) fun ws s2 ⟨zs, H2, I2, rz, l2, q2⟩ => ⟨I2.kIn, ?_⟩
  rw [hks]
  have hq := q2 (s2.heap.objs.size + 1) s2.heap.objs.size (I2.hok.fresh (Nat.le_succ _)) (I2.hok.fresh (Nat.le_refl _)) (Nat.ne_of_lt (Nat.lt_succ_self _))
  have I3 := Inv.made (C := C) I2
  have r1 : Vals (V.ref (s2.heap.objs.size + 1) :: vs) (Value.ref (s2.heap.objs.size + 1) :: us) := .cons rfl r
  refine wpAny_call (make_map (f := f) I2.kIn M.makes M.init (beq_iff_eq.mp M.fn) (codeAny_mono (F _ X.stack _ _ (Value.ref (s2.heap.objs.size + 1) :: us) ws _ _ _ E0 (hr.make C us (ks.zip ws))
    (I3.env0.make C us (ks.zip ws)) r1 rz hq) fun r s' hq' => ?_))
  cases r with
  | error e => exact pass0 pins σ _ _ e s' I3 hq'
  | ok fl =>
    cases fl with
    | ret u =>
      obtain ⟨v, H', I4, rv, ev, q3⟩ := I3.after hq'
      subst ev
      exact ⟨rv, ⟨V.ref (s2.heap.objs.size + 1), H', I4, rfl, q3⟩⟩
    | next => exact False.elim hq'
    | brk => exact False.elim hq'
    | cont => exact False.elim hq'
end
end CN
end
section
set_option Elab.async false
set_option linter.all false
set_option maxRecDepth 100000
set_option maxHeartbeats 4000000
namespace CN
open PySem PySem.Spec PyProof.Rows L2
local macro_rules | `(tactic| trivial) => `(tactic| exact Led.get (by assumption) 9)
local macro_rules | `(tactic| trivial) => `(tactic| exact Led.get (by assumption) 8)
local macro_rules | `(tactic| trivial) => `(tactic| exact Led.get (by assumption) 7)
local macro_rules | `(tactic| trivial) => `(tactic| exact Led.get (by assumption) 6)
local macro_rules | `(tactic| trivial) => `(tactic| exact Led.get (by assumption) 5)
local macro_rules | `(tactic| trivial) => `(tactic| exact Led.get (by assumption) 4)
local macro_rules | `(tactic| trivial) => `(tactic| exact Led.get (by assumption) 3)
local macro_rules | `(tactic| trivial) => `(tactic| exact Led.get (by assumption) 2)
local macro_rules | `(tactic| trivial) => `(tactic| exact Led.get (by assumption) 1)
local macro_rules | `(tactic| trivial) => `(tactic| exact Led.get (by assumption) 0)
section
variable {P : Program} {w : World} {K : PySem.W.Frag} {mg : Str → Option Value} {base : Heap} [POk P]
theorem sc_Store___init__ : FnScope ["self", "rule", "room", "cells", "cell", "word"] ["self", "rule", "room", "cells"] (defScope s_Store___init__) := ⟨rfl, rfl, rfl, by decide +kernel, rfl, by decide +kernel, by decide +kernel⟩
def sb_Store___init__ (K : PySem.W.Frag) : Sp := fun vs H Q E => ∃ S ds r d, vs = [.ref S, .str r, .int 200, .ref d] ∧ H S = some (.ins (He.ga K "Store") ds []) ∧ lRULES.contains r = true ∧ H d = some (.dK [(kA, .str "w0")]) ∧
  ∀ H' DC t DM PL QL, Fr [S] H H' → H' S = some (StO K ds r DC DM PL QL) → CelT H' DC t "w0" 0 → H' DM = some (.dK []) → H' PL = some (.lst []) → H' QL = some (.lst []) → DC ≠ DM → PL ≠ QL → H DC = none → H DM = none → H PL = none → H QL = none → Q .non H'
theorem fr_none {H H' : Hp} {q x : Addr} (f : Fr [q] H H') (h : H' x = none) (n : x ≠ q) : H x = none := by
  cases e : H x with
  | none => rfl
  | some o =>
    have := f _ _ e (by simpa using n)
    rw [h] at this
    cases this
abbrev kwSt (sp : Sp) : List V → List V → Hp → VK → XK → Prop := fun vs zs H Q E => ∃ v1 v2 y1 y2, vs = [v1, v2] ∧ zs = [y1, y2] ∧ ∀ d, H d = none → sp [v1, v2, y1, .ref d] (upd H d (.dK [(kA, y2)])) Q E
theorem ok_Store___init__ (T : TX w K mg) : FnKw P w K mg base CX0 3 (a_Store___init__ K) ["room", "a"] (kwSt (sb_Store___init__ K)) := by
  obtain ⟨fd, F⟩ := T.fn 64 rfl rfl
  refine fSt (sp := sb_Store___init__ K) F sc_Store___init__ (fun _ _ _ _ _ _ _ _ _ _ => rfl) (fun cdv A outer s H vs Q E hr h => ?_)
  obtain ⟨S, ds, r, d, rfl, hS, hru, hd, k⟩ := h
  refine ⟨_, (pss_cons (ps_expr (pe_cf (ok_need_rule (P := P) T) (hr.mono (by decide)) (by rfl) (T.gf "need_rule") (pa_cons (pv 1) pa_nil)))
      (pss_cons (ps_if (pt_not (pt_val (pe_cf (ok_is_between (P := P) T) (hr.mono (by decide)) (by rfl) (T.gf "is_between") (pa_cons (pv 2) (pa_cons pe_int (pa_cons (pe_gint rfl (T.gint "MOST_ROOM" (200))) pa_nil))))))
        (pss_one ps_never)
        pss_nil)
      (pss_cons (ps_if (PW.pt (pw_or (pt_cmpR op_gt (pe_callB call_lenD (by rfl) (T.free "len") (by decide +kernel) (pa_cons (pv 3) pa_nil)) (pe_gint rfl (T.gint "MOST_CELLS" (6))) (nomark _)) (pw_or1 (pt_not (pt_val (pe_callB (cr_all rfl) (by rfl) (T.free "all") (by decide +kernel) (pa_cons (pe_lock (pe_lc (own := [("cell", 4)]) rfl sc_Store___init__.nd (pi_keys (pv 3)) (blkN sc_Store___init__) (fun _ _ _ _ _ => pgn 4 sc_Store___init__.nd) (fun _ _ _ _ _ => pts_nil) (fun _ _ _ _ _ => pe_cf (ok_is_name (P := P) T) (hr.mono (by decide)) (by rfl) (T.gf "is_name") (pa_cons (pv 4) pa_nil)))) pa_nil)))))))
        (pss_one ps_never)
        pss_nil)
      (pss_cons (ps_if (pt_not (pt_val (pe_callB (cr_all rfl) (by rfl) (T.free "all") (by decide +kernel) (pa_cons (pe_lock (pe_lc (own := [("word", 5)]) rfl sc_Store___init__.nd (pi_values (pv 3)) (blkN sc_Store___init__) (fun _ _ _ _ _ => pgn 5 sc_Store___init__.nd) (fun _ _ _ _ _ => pts_nil) (fun _ _ _ _ _ => pe_cf (ok_is_word (P := P) T) (hr.mono (by decide)) (by rfl) (T.gf "is_word") (pa_cons (pv 5) pa_nil)))) pa_nil))))
        (pss_one ps_never)
        pss_nil)
      (pss_cons (ps_fd (T.cls "Store") (T.na "Store" "rule") (pv 0) (pv 1))
      (pss_cons (ps_fd (T.cls "Store") (T.na "Store" "most") (pv 0) (pv 2))
      (pss_cons (ps_fd (T.cls "Store") (T.na "Store" "cells") (pv 0) (pe_lock (pe_dc (own := [("cell", 4), ("word", 5)]) rfl sc_Store___init__.nd (pi_items (pv 3)) (blkN sc_Store___init__) (fun _ _ _ _ _ => pg_tupK K 2 rfl rfl (pgs_cons (pgn 4 sc_Store___init__.nd) (pgs_cons (pgn 5 sc_Store___init__.nd) pgs_nil))) (fun _ _ _ _ _ => pts_nil) (fun _ _ _ _ _ => pv 4) (fun _ _ _ _ _ => pe_tup (pa_cons (pv 5) (pa_cons pe_int pa_nil))))))
      (pss_cons (ps_fd (T.cls "Store") (T.na "Store" "members") (pv 0) pe_dnewK)
      (pss_cons (ps_fd (T.cls "Store") (T.na "Store" "past") (pv 0) (pe_lst pa_nil))
      (pss_one (ps_fd (T.cls "Store") (T.na "Store" "queue") (pv 0) (pe_lst pa_nil)))))))))))), ?_⟩
  have nSd : S ≠ d := ne_of hS hd fun z => nomatch z
  have okA : okN "a" = true := by decide +kernel
  have okw : okW "w0" = true := by decide +kernel
  refine ⟨_, rfl, _, rfl, hru, ?_⟩
  refine ⟨_, rfl, _, _, _, rfl, true, rfl, ?_⟩
  refine ⟨_, rfl, d, _, rfl, hd, _, _, rfl, rfl, false, rfl, ?_⟩
  refine ⟨d, _, hd, True.intro, fun od => ?_⟩
  refine ⟨_, rfl, d, od, rfl, .inl ⟨_, upd_same, fun A hA => ?_⟩⟩
  have nAd : A ≠ d := fun e => by rw [e, upd_same] at hA; cases hA
  refine lc_it walk_keys (LcI (upd H d (.frz od (.dK [(kA, .str "w0")]))) A [((kA, V.str "w0") : L2.Key × V)] (fun _ => [V.bl true])) (LcI.zero hA) (fun _ _ _ q => q.s _ _ upd_same) ?_ ?_
  · rintro i x H1 _ hi p ⟨rfl, kk, vv, hx, rfl⟩
    have hi0 : i = 0 := by
      have : i < 1 := hi
      omega
    subst hi0
    cases hx
    refine ⟨rfl, _, rfl, _, rfl, okA, fun H2 s2 => ?_⟩
    exact p.push hA rfl s2 rfl (flat_lt (fun _ => Nat.le_refl _) (by show 1 < sizeLine; rw [line_eq]; decide))
  intro H1 p
  have eA := p.all
  refine ⟨p.s _ _ upd_same, ?_⟩
  have sH : Same H (upd H1 d (.dK [(kA, .str "w0")])) := Same.unlock p.s hd
  have eA2 : upd H1 d (.dK [(kA, .str "w0")]) A = some (.lst [V.bl true]) := by
    rw [upd_ne nAd]
    exact eA
  generalize upd H1 d (.dK [(kA, .str "w0")]) = H2 at sH eA2 ⊢
  refine ⟨_, [true], rfl, .inl (.inl eA2), _, rfl, ?_⟩
  have hd2 := sH _ _ hd
  refine ⟨d, _, hd2, True.intro, fun od2 => ?_⟩
  refine ⟨_, rfl, d, od2, _, rfl, upd_same, fun B hB => ?_⟩
  have nBd : B ≠ d := fun e => by rw [e, upd_same] at hB; cases hB
  refine lc_it walk_values (LcI (upd H2 d (.frz od2 (.dK [(kA, .str "w0")]))) B [((kA, V.str "w0") : L2.Key × V)] (fun _ => [V.bl true])) (LcI.zero hB) (fun _ _ _ q => q.s _ _ upd_same) ?_ ?_
  · rintro i x H3 _ hi p ⟨rfl, kk, hx⟩
    have hi0 : i = 0 := by
      have : i < 1 := hi
      omega
    subst hi0
    cases hx
    refine ⟨rfl, _, rfl, _, rfl, okw, fun H4 s4 => ?_⟩
    exact p.push hB rfl s4 rfl (flat_lt (fun _ => Nat.le_refl _) (by show 1 < sizeLine; rw [line_eq]; decide))
  intro H3 p2
  have eB := p2.all
  refine ⟨p2.s _ _ upd_same, ?_⟩
  have sH2 : Same H2 (upd H3 d (.dK [(kA, .str "w0")])) := Same.unlock p2.s hd2
  have eB2 : upd H3 d (.dK [(kA, .str "w0")]) B = some (.lst [V.bl true]) := by
    rw [upd_ne nBd]
    exact eB
  generalize upd H3 d (.dK [(kA, .str "w0")]) = H4 at sH2 eB2 ⊢
  refine ⟨_, [true], rfl, .inl (.inl eB2), _, rfl, ?_⟩
  have s4 := sH.trans sH2
  have hS4 := s4 _ _ hS
  refine ⟨_, rfl, _, rfl, S, ds, _, _, rfl, hS4, rfl, lt_b rfl, ?_⟩
  refine ⟨_, rfl, _, rfl, S, ds, _, _, rfl, upd_same, rfl, lt_b rfl, ?_⟩
  generalize e5 : upd (upd H4 S _) S _ = H5
  have f5 : Fr [S] H H5 := by
    rw [← e5]
    exact (Fr.same s4).trans ((Fr.upd (.head _)).trans (Fr.upd (.head _)))
  have hS5 : H5 S = some (.ins (He.ga K "Store") ds [("rule", .str r), ("most", .int 200)]) := by
    rw [← e5]
    exact upd_same
  have hd5 : H5 d = some (.dK [(kA, .str "w0")]) := fr1 f5 hd (Ne.symm nSd)
  refine ⟨d, _, hd5, True.intro, fun od3 => ?_⟩
  refine ⟨_, rfl, d, od3, _, rfl, upd_same, fun C hC => ?_⟩
  have nCd : C ≠ d := fun e => by rw [e, upd_same] at hC; cases hC
  have nC0 : H C = none := by
    have h5 : H5 C = none := by rwa [upd_ne nCd] at hC
    exact fr_none f5 h5 fun e => by rw [e, hS5] at h5; cases h5
  refine dc_it walk_items (fun i H' => Same (upd H5 d (.frz od3 (.dK [(kA, .str "w0")]))) H' ∧ (i = 0 → H' C = some (.dK [])) ∧ (i = 1 → ∃ t, H' C = some (.dK [(kA, .ref t)]) ∧ H' t = some (.tup [.str "w0", .int 0]))) ⟨Same.new hC, fun _ => upd_same, fun e => nomatch e⟩ (fun _ _ _ q => q.1 _ _ upd_same) ?_ ?_
  · rintro i x H6 _ hi ⟨s6, q6, _⟩ ⟨T', y, z, rfl, nT, rfl, hy, hz⟩
    have hi0 : i = 0 := by
      have : i < 1 := hi
      omega
    subst hi0
    cases hy
    cases hz
    have eC := q6 rfl
    refine ⟨_, _, rfl, .of upd_same, rfl, _, _, rfl, _, _, rfl, ⟨rfl, rfl, ?_⟩⟩
    refine ⟨_, rfl, _, rfl, ll rfl, fun t nt => ?_⟩
    have eC6 := Same.new (o := .tup [kV kA, .str "w0"]) nT _ _ eC
    have eC7 := Same.new (o := .tup [.str "w0", .int 0]) nt _ _ eC6
    refine ⟨[], kA, rfl, eC7, by show 0 < sizeLine; rw [line_eq]; decide, ?_, (fun e => absurd e (by decide)), fun _ => ⟨t, upd_same, ?_⟩⟩
    · exact Same.wr (Same.newT (Same.newT s6 nT) nt) hC
    · rw [upd_ne (Ne.symm (ne_of_none eC6 nt))]
      exact upd_same
  rintro H6 ⟨s6, _, q6⟩
  obtain ⟨t0, eC, et⟩ := q6 rfl
  refine ⟨s6 _ _ upd_same, ?_⟩
  have sH5 : Same H5 (upd H6 d (.dK [(kA, .str "w0")])) := Same.unlock s6 hd5
  have eC2 : upd H6 d (.dK [(kA, .str "w0")]) C = some (.dK [(kA, .ref t0)]) := by
    rw [upd_ne nCd]
    exact eC
  have et2 : upd H6 d (.dK [(kA, .str "w0")]) t0 = some (.tup [.str "w0", .int 0]) := by
    rw [upd_ne (ne_of et (s6 _ _ upd_same) fun z => nomatch z)]
    exact et
  generalize upd H6 d (.dK [(kA, .str "w0")]) = H7 at sH5 eC2 et2 ⊢
  have hS7 := sH5 _ _ hS5
  refine ⟨_, rfl, S, ds, _, _, rfl, hS7, rfl, lt_b rfl, ?_⟩
  generalize e8 : upd H7 S _ = H8
  have f8 : Fr [S] H7 H8 := by
    rw [← e8]
    exact Fr.upd (.head _)
  have f08 : Fr [S] H H8 := f5.trans ((Fr.same sH5).trans f8)
  have hS8 : H8 S = some (.ins (He.ga K "Store") ds [("rule", .str r), ("most", .int 200), ("cells", .ref C)]) := by
    rw [← e8]
    exact upd_same
  have eC8 := fr1 f8 eC2 (nk eC2 hS7)
  have et8 := fr1 f8 et2 (nk et2 hS7)
  refine fun M nM => ⟨_, rfl, S, ds, _, _, rfl, Same.new nM _ _ hS8, rfl, lt_b rfl, ?_⟩
  have nMS : M ≠ S := Ne.symm (ne_of_none hS8 nM)
  generalize e9 : upd (upd H8 M (.dK [])) S _ = H9
  have f9 : Fr [S] H8 H9 := by
    rw [← e9]
    exact (Fr.new nM).trans (Fr.upd (.head _))
  have hS9 : H9 S = some (.ins (He.ga K "Store") ds [("rule", .str r), ("most", .int 200), ("cells", .ref C), ("members", .ref M)]) := by
    rw [← e9]
    exact upd_same
  have eM9 : H9 M = some (.dK []) := by
    rw [← e9, upd_ne nMS]
    exact upd_same
  have eC9 := fr1 f9 eC8 (nk eC8 hS8)
  have et9 := fr1 f9 et8 (nk et8 hS8)
  have nCM : C ≠ M := ne_of_none eC8 nM
  refine ⟨ll rfl, fun PL nP => ⟨_, rfl, S, ds, _, _, rfl, Same.new nP _ _ hS9, rfl, lt_b rfl, ?_⟩⟩
  have nPS : PL ≠ S := Ne.symm (ne_of_none hS9 nP)
  generalize e10 : upd (upd H9 PL (.lst [])) S _ = H10
  have f10 : Fr [S] H9 H10 := by
    rw [← e10]
    exact (Fr.new nP).trans (Fr.upd (.head _))
  have hS10 : H10 S = some (.ins (He.ga K "Store") ds [("rule", .str r), ("most", .int 200), ("cells", .ref C), ("members", .ref M), ("past", .ref PL)]) := by
    rw [← e10]
    exact upd_same
  have eP10 : H10 PL = some (.lst []) := by
    rw [← e10, upd_ne nPS]
    exact upd_same
  have eM10 := fr1 f10 eM9 nMS
  have eC10 := fr1 f10 eC9 (nk eC9 hS9)
  have et10 := fr1 f10 et9 (nk et9 hS9)
  refine ⟨ll rfl, fun QL nQ => ⟨_, rfl, S, ds, _, _, rfl, Same.new nQ _ _ hS10, rfl, lt_b rfl, ?_⟩⟩
  have nQS : QL ≠ S := Ne.symm (ne_of_none hS10 nQ)
  generalize e11 : upd (upd H10 QL (.lst [])) S _ = H11
  have f11 : Fr [S] H10 H11 := by
    rw [← e11]
    exact (Fr.new nQ).trans (Fr.upd (.head _))
  have hS11 : H11 S = some (StO K ds r C M PL QL) := by
    rw [← e11]
    exact upd_same
  have eQ11 : H11 QL = some (.lst []) := by
    rw [← e11, upd_ne nQS]
    exact upd_same
  refine k H11 C t0 M PL QL (f08.trans (f9.trans (f10.trans f11))) hS11 ⟨fr1 f11 eC10 (nk eC10 hS10), fr1 f11 et10 (nk et10 hS10)⟩ (fr1 f11 eM10 nMS) (fr1 f11 eP10 nPS) eQ11 nCM (ne_of_none eP10 nQ) nC0 (fr_none f08 nM nMS) (fr_none (f08.trans f9) nP nPS) (fr_none (f08.trans (f9.trans f10)) nQ nQS)

end
end CN
end
section
set_option Elab.async false
set_option linter.all false
set_option maxRecDepth 100000
set_option maxHeartbeats 4000000
namespace CN
open PySem PySem.Spec PyProof.Rows L2
local macro_rules | `(tactic| trivial) => `(tactic| exact Led.get (by assumption) 9)
local macro_rules | `(tactic| trivial) => `(tactic| exact Led.get (by assumption) 8)
local macro_rules | `(tactic| trivial) => `(tactic| exact Led.get (by assumption) 7)
local macro_rules | `(tactic| trivial) => `(tactic| exact Led.get (by assumption) 6)
local macro_rules | `(tactic| trivial) => `(tactic| exact Led.get (by assumption) 5)
local macro_rules | `(tactic| trivial) => `(tactic| exact Led.get (by assumption) 4)
local macro_rules | `(tactic| trivial) => `(tactic| exact Led.get (by assumption) 3)
local macro_rules | `(tactic| trivial) => `(tactic| exact Led.get (by assumption) 2)
local macro_rules | `(tactic| trivial) => `(tactic| exact Led.get (by assumption) 1)
local macro_rules | `(tactic| trivial) => `(tactic| exact Led.get (by assumption) 0)
section
variable {P : Program} {w : World} {K : PySem.W.Frag} {mg : Str → Option Value} {base : Heap} [POk P]
def wordN (k : Nat) : Str := ("w" : Str) ++ (toString ((k : Nat) : Int) : Str)
theorem words_ok : (List.range 17).all (fun k => okW (wordN k)) = true := by decide +kernel
theorem words_inj : ((List.range 17).all fun a => (List.range 17).all fun b => decide (wordN a = wordN b → a = b)) = true := by decide +kernel
theorem word0 : wordN 0 = "w0" := by decide +kernel
theorem okW_word {k : Nat} (h : k ≤ 16) : okW (wordN k) = true := List.all_eq_true.mp words_ok k (List.mem_range.mpr (Nat.lt_succ_of_le h))
theorem wordN_inj {a b : Nat} (ha : a ≤ 16) (hb : b ≤ 16) (e : wordN a = wordN b) : a = b :=
  of_decide_eq_true (List.all_eq_true.mp (List.all_eq_true.mp words_inj a (List.mem_range.mpr (Nat.lt_succ_of_le ha))) b (List.mem_range.mpr (Nat.lt_succ_of_le hb))) e
theorem words_log : (List.range 17).all (fun k => decide ((((k : Nat) : Int)).natAbs.log2 < 1920)) = true := by decide +kernel
theorem words_len : (List.range 17).all (fun k => decide ((("w" : Str)).length + ((toString ((k : Nat) : Int) : Str)).length ≤ 16)) = true := by decide +kernel
theorem word_log {k : Nat} (h : k ≤ 16) : (((k : Nat) : Int)).natAbs.log2 < 1920 := of_decide_eq_true (List.all_eq_true.mp words_log k (List.mem_range.mpr (Nat.lt_succ_of_le h)))
theorem word_len {k : Nat} (h : k ≤ 16) : (("w" : Str)).length + ((toString ((k : Nat) : Int) : Str)).length ≤ sizeLine := Nat.le_trans (of_decide_eq_true (List.all_eq_true.mp words_len k (List.mem_range.mpr (Nat.lt_succ_of_le h)))) (ll rfl)
def cr0 : Cr := ⟨"w0", 0, 0, 0, [], none, none, [], none⟩
theorem start_inv : CInv wordN 0 cr0 startV :=
  ⟨VInv.start, rfl, word0.symm, Nat.le_refl _, Nat.le_refl _, .inl ⟨rfl, rfl⟩, .inl ⟨rfl, rfl, rfl⟩, rfl, fun _ h => (nomatch h), .inl rfl, True.intro⟩
theorem start_bd : CBd 0 cr0 := ⟨Nat.le_refl _, Nat.le_refl _, Nat.le_refl _, Nat.le_refl _, fun _ h => nomatch h⟩
theorem other_cr {a : Ab} {t' st' : Addr} {z : Str} {qn : List V} {pv : V} : Ab.cr { a with t := t', w0 := z, cn := a.past.length + 1, qs := a.qs ++ qn, que := a.que ++ [(a.past.length + 1, z)], past := a.past ++ [pv], sb := st' } = otherC z a.cr := by
  unfold Ab.cr otherC
  simp
def sp__law_walked (K : PySem.W.Frag) : Sp := fun vs H Q E => ∃ r way b zs, vs = [.str r, .str way, .ref b] ∧ lRULES.contains r = true ∧ lUPDATES.contains way = true ∧ SqT K H b (List.map V.str zs) ∧ zs.length ≤ 16 ∧ (∀ z ∈ zs, lSTEPS.contains z = true ∨ z = "other") ∧
  ∀ H' A a k ret, Ad.B A = H → Ad.way A = way → WOk K A H' a → k ≤ 16 → CInv wordN k a.cr (zs.foldl afterV startV) → CBd zs.length a.cr → SqT K H' ret [.ref A.k, .ref A.c, .ref A.S] → Q (.ref ret) H'
theorem sc__law_walked : FnScope ["_law_rule_here", "_law_way", "_law_steps", "_law_store", "_law_number", "_law_client", "_law_sender", "_law_keeper", "_law_step"] ["_law_rule_here", "_law_way", "_law_steps"] (defScope s__law_walked) := ⟨rfl, rfl, rfl, by decide +kernel, rfl, by decide +kernel, by decide +kernel⟩
theorem ok__law_walked (T : TX w K mg) : FnR P w K mg base CX0 10 (a__law_walked K) (sp__law_walked K) := by
  obtain ⟨fd, F⟩ := T.fn 74 rfl rfl
  refine fR F sc__law_walked (fun _ _ _ _ _ _ us hl => match us, hl with | [_, _, _], _ => rfl) (fun vs H Q E h => ?_) (fun cdv A outer s H vs Q E hr h => ?_)
  · obtain ⟨r, way, b, zs, rfl, hru, hup, hb, hl, hz, kk⟩ := h
    rfl
  · obtain ⟨r, way, b, zs, rfl, hru, hup, hb, hl, hz, kk⟩ := h
    refine ⟨_, (pss_cons (ps_par (i := 3) (j := 4) rfl sc__law_walked.nd rfl rfl (by decide) rfl rfl (pa_cons (pe_makeSt (T.mkr "Store") (ok_Store___init__ (P := P) T) (hr.mono (by decide)) (by rfl) (T.ref "Store") (pa_cons (pv 0) pa_nil) (pk_cons pe_int (pk_cons pe_str pk_nil))) (pa_cons pe_int pa_nil)) rfl)
      (pss_cons (ps_par (i := 5) (j := 6) rfl sc__law_walked.nd rfl rfl (by decide) rfl rfl (pa_cons (pe_me (pv 3) (T.cls "Store") (T.me "Store" "client") (ok_Store_client (P := P) T) (hr.mono (by decide)) (pa_cons pe_str pa_nil)) (pa_cons (pe_me (pv 3) (T.cls "Store") (T.me "Store" "client") (ok_Store_client (P := P) T) (hr.mono (by decide)) (pa_cons pe_str pa_nil)) pa_nil)) rfl)
      (pss_cons (pst 7 sc__law_walked.nd (pe_mk (T.mkr "Keeper") (ok_Keeper___init__ (P := P) T) (hr.mono (by decide)) (by rfl) (T.ref "Keeper") (pa_cons (pv 5) (pa_cons pe_str (pa_cons (pv 1) pa_nil)))))
      (pss_cons (ps_for PassesOwn.never rfl (pi_tup (pv 2)) (pgn 8 sc__law_walked.nd)
        (pss_cons (ps_if (pt_cmpR op_eq (pv 8) pe_str (nomark _))
          (pss_cons (pst 4 sc__law_walked.nd (pe_op op_add (pv 4) pe_int))
          (pss_one (ps_expr (pe_me (pv 6) (T.cls "Client") (T.me "Client" "run") (ok_Sender_run (P := P) T) (hr.mono (by decide)) (pa_cons (pe_tup (pa_cons pe_str (pa_cons pe_str (pa_cons (pe_op op_add_str pe_str (pe_callTy call_str_int (by rfl) (T.free "str") (by decide +kernel) (pa_cons (pv 4) pa_nil))) pa_nil)))) (pa_cons (pe_tup (pa_cons pe_str (pa_cons pe_str (pa_cons (pe_op op_add_str pe_str (pe_callTy call_str_int (by rfl) (T.free "str") (by decide +kernel) (pa_cons (pv 4) pa_nil))) pa_nil)))) pa_nil))))))
          pss_nil)
        (pss_one (ps_expr (pe_inst (pv 7) T.callO (ok_Keeper___call__ (P := P) T) (hr.mono (by decide)) (pa_cons (pv 8) pa_nil))))))
      (pss_one (ps_ret (pe_tup (pa_cons (pv 7) (pa_cons (pv 5) (pa_cons (pv 3) pa_nil)))))))))), ?_⟩
    refine ⟨_, rfl, rfl, fun S ds nS nds neS => ⟨_, _, _, _, rfl, rfl, fun d nd => ?_⟩⟩
    have s00 : Same H (upd (upd H ds (.own S)) S (.ins (He.ga K "Store") ds [])) := (Same.new nds).trans (Same.new (by rw [upd_ne (Ne.symm neS)]; exact nS))
    have hS0 : (upd (upd H ds (.own S)) S (.ins (He.ga K "Store") ds [])) S = some (.ins (He.ga K "Store") ds []) := upd_same
    generalize upd (upd H ds (.own S)) S (.ins (He.ga K "Store") ds []) = H0 at s00 hS0 nd ⊢
    have s01 := Same.newT (o := .dK [(kA, .str "w0")]) s00 nd
    have hS1 := Same.new (o := .dK [(kA, .str "w0")]) nd _ _ hS0
    refine ⟨S, ds, r, d, rfl, hS1, hru, upd_same, fun H1 DC t DM PL QL f1 hS1 hcel hM1 hP1 hQ1 nDM nPQ n1 n2 n3 n4 => ⟨rfl, _, _, rfl, ?_⟩⟩
    have sH1 : Same H H1 := (Fr.drop nS ((Fr.same s01).trans f1)).toSame
    have m1 := none_of s01 n1
    have m2 := none_of s01 n2
    have m3 := none_of s01 n3
    have m4 := none_of s01 n4
    clear f1 s01 s00 hS0 nd
    refine ⟨_, rfl, _, _, _, rfl, hS1, rfl, S, ds, r, DC, DM, PL, QL, "ann", [], rfl, hS1, hM1, by decide +kernel, rfl, by show 0 < 1000; decide, fun H2 c dc st f2 nc nst ncst hc2 hst2 hM2 => ?_⟩
    have sH2 : Same H H2 := (Fr.drop m2 ((Fr.same sH1).trans f2)).toSame
    have hS2 := fr1 f2 hS1 (nk hS1 hM1)
    have hD2 := fr1 f2 hcel.1 nDM
    have ht2 := fr1 f2 hcel.2 (nk hcel.2 hM1)
    have hP2 := fr1 f2 hP1 (nk hP1 hM1)
    have hQ2 := fr1 f2 hQ1 (nk hQ1 hM1)
    have hv : valV ([((.inr "ann" : Key), V.ref c)]) (.inr "bob") = none := valV_none (by simp; decide)
    refine ⟨_, rfl, _, _, _, rfl, hS2, rfl, S, ds, r, DC, DM, PL, QL, "bob", [(.inr "ann", .ref c)], rfl, hS2, hM2, by decide +kernel, hv, by show 1 < 1000; decide, fun H3 bb db sb f3 nb nsb nbsb hb3 hsb3 hM3 => ⟨_, _, rfl, ?_⟩⟩
    rw [putK_new hv] at hM3
    have sH3 : Same H H3 := (Fr.drop m2 ((Fr.same sH2).trans f3)).toSame
    have hS3 := fr1 f3 hS2 (nk hS2 hM2)
    have hD3 := fr1 f3 hD2 nDM
    have ht3 := fr1 f3 ht2 (nk ht2 hM2)
    have hP3 := fr1 f3 hP2 (nk hP2 hM2)
    have hQ3 := fr1 f3 hQ2 (nk hQ2 hM2)
    have hc3 := fr1 f3 hc2 (nk hc2 hM2)
    have nstM : st ≠ DM := Ne.symm (ne_of_none hM1 nst)
    have nsbM : sb ≠ DM := Ne.symm (ne_of_none hM2 nsb)
    have hst3 := fr1 f3 hst2 nstM
    have nsts : st ≠ sb := ne_of_none hst2 nsb
    have nstD : st ≠ DC := Ne.symm (ne_of_none hcel.1 nst)
    have nsbD : sb ≠ DC := Ne.symm (ne_of_none hD2 nsb)
    have ncb : c ≠ bb := ne_of_none hc2 nb
    have mc := none_of sH1 nc
    have mb := none_of sH2 nb
    refine ⟨_, rfl, _, rfl, fun k dk nk' ndk nek => ?_⟩
    have s40 : Same H3 (upd (upd H3 dk (.own k)) k (.ins (He.ga K "Keeper") dk [])) := (Same.new ndk).trans (Same.new (by rw [upd_ne (Ne.symm nek)]; exact nk'))
    have hk4 : (upd (upd H3 dk (.own k)) k (.ins (He.ga K "Keeper") dk [])) k = some (.ins (He.ga K "Keeper") dk []) := upd_same
    generalize upd (upd H3 dk (.own k)) k (.ins (He.ga K "Keeper") dk []) = H4 at s40 hk4 ⊢
    have mk := none_of sH3 nk'
    have s4 := sH3.trans s40
    refine ⟨k, dk, c, dc, S, "ann", _, st, _, ds, r, DC, DM, PL, QL, t, "w0", 0, way, rfl, hk4, s40 _ _ hc3, s40 _ _ hS3, ⟨s40 _ _ hD3, s40 _ _ ht3⟩, hup, fun H5 L f5 nL nLk hL5 hk5 => ⟨rfl, ?_⟩⟩
    have sH5 : Same H H5 := (Fr.drop mk ((Fr.same s4).trans f5)).toSame
    have g : ∀ {x : Addr} {o : HO}, H3 x = some o → H5 x = some o := fun e => fr1 f5 (s40 _ _ e) (ne_of_none e nk')
    obtain ⟨A0, eS, ec, eb, ek, eB, ew, a0, wA, ea⟩ : ∃ A0 : Ad, A0.S = S ∧ A0.c = c ∧ A0.b = bb ∧ A0.k = k ∧ A0.B = H ∧ A0.way = way ∧ ∃ a0 : Ab, WOk K A0 H5 a0 ∧ a0.cr = cr0 := by
      refine ⟨⟨S, ds, DC, DM, PL, QL, c, dc, bb, db, k, dk, L, r, way, H⟩, rfl, rfl, rfl, rfl, rfl, rfl, ⟨t, st, sb, "w0", 0, 0, [], [], [], none, none, [], none⟩, ?_, rfl⟩
      exact ⟨g hS3, hru, hup, g hD3, g ht3, g hM3, g hP3, g hQ3, .nil, g hc3, g hst3, g hb3, g hsb3, hk5, hL5, (fun _ e => nomatch e),
        ⟨nPQ, ne_of_none (s40 _ _ hP3) nL, ne_of_none (s40 _ _ hQ3) nL⟩, ⟨nDM, nstD, nstM, nsbD, nsbM, nsts⟩, ncb, sH5, ⟨mc, mb, mk, m1, m3, m4, none_of s4 nL⟩⟩
    subst eS ec eb ek ew
    have hb5 := Same.tup sH5 hb
    have hsb : Same A0.B H5 := wA.bs
    refine ⟨_, rfl, b, rfl, ⟨_, hb5⟩, for_it (walk_tup (xs := List.map V.str zs)) (fun i σ H' => ∃ a kn u8, σ = [some (.str r), some (.str A0.way), some (.ref b), some (.ref A0.S), some (.int ((kn : Nat) : Int)), some (.ref A0.c), some (.ref A0.b), some (.ref A0.k), u8] ∧ WOk K A0 H' a ∧ kn ≤ i ∧ CInv wordN kn a.cr ((zs.take i).foldl afterV startV) ∧ CBd i a.cr) ?_ ?_ ?_ ?_⟩
    · exact ⟨a0, 0, _, rfl, wA, Nat.le_refl _, by rw [ea]; exact start_inv, by rw [ea]; exact start_bd⟩
    · rintro i σ H' _ ⟨a, kn, u8, rfl, w1, _⟩
      have e := w1.bs
      rw [eB] at e
      exact Same.tup e hb
    · rintro i x σ H6 H7 hi ⟨a, kn, u8, rfl, w1, hkn, hinv, hbd⟩ ⟨rfl, hx⟩
      obtain ⟨st', hx', rfl⟩ := get_map hx
      have hi' : i < zs.length := by simpa using hi
      have hst := hz st' (List.mem_of_getElem? hx')
      rw [take_at hx', List.foldl_append]
      by_cases ho : st' = "other"
      · refine ⟨_, rfl, rfl, true, congrArg V.bl (sT ho), ?_⟩
        have hkn1 : kn + 1 ≤ 16 := by omega
        have hok := hinv.ok hbd (by omega)
        have hn : a.cn ≤ a.past.length := hok.cn
        have hq : a.que.length ≤ 50 := hok.que
        have hp : a.past.length < 500 := hok.pl
        have lq : a.qs.length = a.que.length := Paired.length w1.que
        refine ⟨_, rfl, _, _, rfl, rfl, ?_⟩
        refine ⟨_, rfl, _, _, _, rfl, w1.b, rfl, _, rfl, _, rfl, word_log hkn1, _, _, rfl, rfl, word_len hkn1, ll rfl, fun p1 np1 => ?_⟩
        refine ⟨_, rfl, _, rfl, word_log hkn1, _, _, rfl, rfl, word_len hkn1, ll rfl, fun p2 np2 => ?_⟩
        have np2 : upd H7 p1 (.tup [.str "set", .str "a", .str (wordN (kn + 1))]) p2 = none := np2
        have s1 := (Same.new (o := .tup [.str "set", .str "a", .str (wordN (kn + 1))]) np1).trans (Same.new (o := .tup [.str "say", .str "a", .str (wordN (kn + 1))]) np2)
        have e1 : upd (upd H7 p1 (.tup [.str "set", .str "a", .str (wordN (kn + 1))])) p2 (.tup [.str "say", .str "a", .str (wordN (kn + 1))]) p1 = some (.tup [.str "set", .str "a", .str (wordN (kn + 1))]) := Same.new np2 _ _ upd_same
        have e2 : upd (upd H7 p1 (.tup [.str "set", .str "a", .str (wordN (kn + 1))])) p2 (.tup [.str "say", .str "a", .str (wordN (kn + 1))]) p2 = some (.tup [.str "say", .str "a", .str (wordN (kn + 1))]) := upd_same
        refine ⟨[.ref A0.b], [.ref p1, .ref p2], rfl, rfl, ll rfl, fun p3 np3 => ?_⟩
        have np3 : upd (upd H7 p1 (.tup [.str "set", .str "a", .str (wordN (kn + 1))])) p2 (.tup [.str "say", .str "a", .str (wordN (kn + 1))]) p3 = none := np3
        have s2 := s1.trans (Same.new (o := .tup [.ref p1, .ref p2]) np3)
        have e1 := Same.new (o := .tup [.ref p1, .ref p2]) np3 _ _ e1
        have e2 := Same.new (o := .tup [.ref p1, .ref p2]) np3 _ _ e2
        have e3 := upd_same (H := upd (upd H7 p1 (.tup [.str "set", .str "a", .str (wordN (kn + 1))])) p2 (.tup [.str "say", .str "a", .str (wordN (kn + 1))])) (a := p3) (o := .tup [.ref p1, .ref p2])
        have w3 := w1.same s2
        show sb_Sender_run K _ (upd (upd (upd H7 p1 (.tup [.str "set", .str "a", .str (wordN (kn + 1))])) p2 (.tup [.str "say", .str "a", .str (wordN (kn + 1))])) p3 (.tup [.ref p1, .ref p2])) _ _
        generalize upd (upd (upd H7 p1 (.tup [.str "set", .str "a", .str (wordN (kn + 1))])) p2 (.tup [.str "say", .str "a", .str (wordN (kn + 1))])) p3 (.tup [.ref p1, .ref p2]) = H8 at s2 e1 e2 e3 w3 ⊢
        have hw : okW (wordN (kn + 1)) = true := okW_word hkn1
        refine ⟨A0.b, A0.db, A0.S, "bob", a.sb, none, none, A0.ds, A0.r, A0.DC, A0.DM, A0.PL, A0.QL, p3, [.ref p1, .ref p2], [.set (wordN (kn + 1)), .say (wordN (kn + 1))], some (wordN (kn + 1)), none, a.t, a.w0, a.cn, [("ann", A0.c, a.po), ("bob", A0.b, none)], a.qs, a.past, rfl, e3, .cons ⟨p1, rfl, .of e1⟩ (.cons ⟨p2, rfl, .of e2⟩ .nil), ?_, by show 2 ≤ 8; decide, w3.b, w3.S, w3.ru,
          rfl, rfl, .inl rfl, Nat.le_refl _, ?_, w3.DC, w3.t, hn, w3.DM, ?_, by show 2 ≤ 8; decide, w3.sb, w3.QL, by omega, w3.PL, by omega, Ne.symm w3.ls.1, fun H9 st9 qn pv f9 nst9 b9 es9 kw9 eQ9 pQ9 eP9 => ?_⟩
        · intro x hx
          rcases List.mem_cons.mp hx with rfl | hx
          · exact hw
          · rw [List.mem_singleton.mp hx]
            exact hw
        · intro z hz9
          rw [List.mem_singleton.mp (show z ∈ [wordN (kn + 1)] from hz9)]
          exact hw
        · intro m hm
          rcases List.mem_cons.mp hm with rfl | hm
          · exact ⟨_, _, _, w3.c⟩
          · rw [List.mem_singleton.mp hm]
            exact ⟨_, _, _, w3.b⟩
        · obtain ⟨t9, eD9, et9⟩ := kw9
          have w9 := w3.sent f9 nst9 b9 es9 eD9 et9 eQ9 pQ9 eP9
          have ecr := other_cr (a := a) (t' := t9) (st' := st9) (z := wordN (kn + 1)) (qn := qn) (pv := pv)
          have hinv9 : CInv wordN (kn + 1) (otherC (wordN (kn + 1)) a.cr) (afterV ((zs.take i).foldl afterV startV) "other") := hinv.other
          have hbd9 : CBd (i + 1) (otherC (wordN (kn + 1)) a.cr) := hbd.other _
          rw [← ecr] at hinv9 hbd9
          refine ⟨_, rfl, A0.k, rfl, _, rfl, .inr ⟨_, _, w9.k⟩, A0, _, st', rfl, w9, hinv9.ok hbd9 (by omega), .inr ho, fun H5' a5 w5 e5 => ?_⟩
          rw [ho, callC_other] at e5
          rw [← e5] at hinv9 hbd9
          exact ⟨a5, kn + 1, _, rfl, w5, by omega, by rw [ho]; exact hinv9, hbd9⟩
      · refine ⟨_, rfl, rfl, false, congrArg V.bl (sF ho), ?_⟩
        refine ⟨_, rfl, A0.k, rfl, _, rfl, .inr ⟨_, _, w1.k⟩, A0, _, st', rfl, w1, hinv.ok hbd (by omega), hst, fun H5' a5 w5 e5 => ?_⟩
        refine ⟨a5, kn, _, rfl, w5, by omega, ?_, ?_⟩
        · rw [e5]
          exact hinv.call A0.way ho
        · rw [e5]
          exact hbd.call (by omega) A0.way st'
    · rintro σ H6 ⟨a, kn, u8, rfl, w1, hkn, hinv, hbd⟩
      rw [List.length_map] at hkn hinv hbd
      rw [List.take_length] at hinv
      refine ⟨_, rfl, _, rfl, _, rfl, ll rfl, fun ret nret => ?_⟩
      exact kk _ A0 a kn ret eB rfl (w1.same (Same.new nret)) (by omega) hinv hbd (.of upd_same)
    
end
end CN
end
section
set_option Elab.async false
set_option linter.all false
set_option maxRecDepth 100000
set_option maxHeartbeats 4000000
namespace CN
open PySem PySem.Spec PyProof.Rows L2
local macro_rules | `(tactic| trivial) => `(tactic| exact Led.get (by assumption) 9)
local macro_rules | `(tactic| trivial) => `(tactic| exact Led.get (by assumption) 8)
local macro_rules | `(tactic| trivial) => `(tactic| exact Led.get (by assumption) 7)
local macro_rules | `(tactic| trivial) => `(tactic| exact Led.get (by assumption) 6)
local macro_rules | `(tactic| trivial) => `(tactic| exact Led.get (by assumption) 5)
local macro_rules | `(tactic| trivial) => `(tactic| exact Led.get (by assumption) 4)
local macro_rules | `(tactic| trivial) => `(tactic| exact Led.get (by assumption) 3)
local macro_rules | `(tactic| trivial) => `(tactic| exact Led.get (by assumption) 2)
local macro_rules | `(tactic| trivial) => `(tactic| exact Led.get (by assumption) 1)
local macro_rules | `(tactic| trivial) => `(tactic| exact Led.get (by assumption) 0)
section
variable {P : Program} {w : World} {K : PySem.W.Frag} {mg : Str → Option Value} {base : Heap} [POk P]
theorem edge_step {nds : Nds} (hok : OkNds nds) {n : Nat} {l : Int} {e : Str × Nat} (h : edgeAt nds n l = some e) : lSTEPS.contains e.1 = true ∨ e.1 = "other" := by
  unfold edgeAt at h
  by_cases h1 : l = -1
  · rw [if_pos h1] at h
    cases h
    exact .inr rfl
  rw [if_neg h1] at h
  by_cases h2 : l < 0
  · rw [if_pos h2] at h
    cases h
  rw [if_neg h2] at h
  obtain ⟨es, g1, g2⟩ := Option.bind_eq_some_iff.mp h
  exact .inl (List.contains_iff_mem.mpr ((hok.2.2 _ (List.mem_of_getElem? g1)).2 e (List.mem_of_getElem? g2)).1)
theorem replay_steps {nds : Nds} (hok : OkNds nds) : ∀ {run : List Int} {n m : Nat} {s t : VS}, replay nds n s run = some (m, t) → ∃ zs, stepsOf nds n run = some zs ∧ zs.length = run.length ∧ t = zs.foldl afterV s ∧ ∀ z ∈ zs, lSTEPS.contains z = true ∨ z = "other"
  | [], n, m, s, t, h => by
    cases h
    exact ⟨[], rfl, rfl, rfl, fun _ h => nomatch h⟩
  | l :: r, n, m, s, t, h => by
    obtain ⟨e, e1, e2⟩ := Option.bind_eq_some_iff.mp (show (edgeAt nds n l).bind (fun e => replay nds e.2 (afterV s e.1) r) = some (m, t) from h)
    obtain ⟨zs, h1, h2, h3, h4⟩ := replay_steps hok e2
    refine ⟨e.1 :: zs, ?_, by rw [List.length_cons, List.length_cons, h2], h3, fun z hz => ?_⟩
    · show (edgeAt nds n l).bind (fun e => (stepsOf nds e.2 r).map (e.1 :: ·)) = _
      rw [e1]
      show (stepsOf nds e.2 r).map _ = _
      rw [h1]
      rfl
    · rcases List.mem_cons.mp hz with rfl | hz
      · exact edge_step hok e1
      · exact h4 z hz
theorem replay_wt {nds : Nds} : ∀ {run : List Int} {n m : Nat} {s t : VS}, replay nds n s run = some (m, t) → t.wt.length ≤ s.wt.length + run.length
  | [], n, m, s, t, h => by
    cases h
    exact Nat.le_add_right _ _
  | l :: r, n, m, s, t, h => by
    obtain ⟨e, e1, e2⟩ := Option.bind_eq_some_iff.mp (show (edgeAt nds n l).bind (fun e => replay nds e.2 (afterV s e.1) r) = some (m, t) from h)
    have h1 := replay_wt e2
    have h2 := afterV_wt s e.1
    rw [List.length_cons]
    omega
theorem held_eq {k : Nat} {c : Cr} {s : VS} (h : CInv wordN k c s) (hk : k ≤ 16) : decide (heldV c.ws = V.str c.w0) = decide (s.cp = s.pr) := by
  rw [h.pr, h.w0]
  unfold heldV
  rcases h.held with ⟨h1, h2⟩ | ⟨j, h1, h2, h3⟩
  · rw [h1, h2]
    exact (decide_eq_false (fun z => nomatch z)).trans (decide_eq_false (by omega)).symm
  · rw [h2, h3]
    refine decide_eq_decide.mpr ⟨fun e => ?_, fun e => ?_⟩
    · have e : V.str (wordN j) = V.str (wordN k) := e
      have e2 : wordN j = wordN k := by injection e
      rw [wordN_inj (by omega) hk e2]
    · have : j = k := by omega
      rw [this]
theorem held_scal (ws : List Str) (z : Str) : scal (heldV ws) (V.str z) = true := by
  unfold heldV
  cases ws.getLast? <;> rfl
theorem iteB {A B : Prop} {c : Bool} (h : c = false) (hb : B) : if c = true then A else B := by
  rw [h]
  exact iteF hb
def lWays : List Str := ["take", "newer", "reread"]
def sp__law_run_right (K : PySem.W.Frag) : Sp := fun vs H Q E => ∃ m N F r b g nds run n s, vs = [.ref m, .str r, .ref b, .bl g] ∧ Mir K H m N F ∧ NodesT K H N nds ∧ OkNds nds ∧ SqT K H b (List.map V.int run) ∧ run.length ≤ 16 ∧ lRULES.contains r = true ∧ replay nds 0 startV run = some (n, s) ∧ (g = true → (afterV s "receive").cp = (afterV s "receive").pr) ∧ ∀ H', Same H H' → Q (.bl true) H'
theorem sc__law_run_right : FnScope ["_law_mirror", "_law_rule_here", "_law_run", "_law_good", "_law_wrong", "_law_way", "_law_keeper", "_law_client", "_law_store"] ["_law_mirror", "_law_rule_here", "_law_run", "_law_good"] (defScope s__law_run_right) := ⟨rfl, rfl, rfl, by decide +kernel, rfl, by decide +kernel, by decide +kernel⟩
theorem ok__law_run_right (T : TX w K mg) : FnR P w K mg base CX0 11 (a__law_run_right K) (sp__law_run_right K) := by
  obtain ⟨fd, F⟩ := T.fn 88 rfl rfl
  refine fR F sc__law_run_right (fun _ _ _ _ _ _ us hl => match us, hl with | [_, _, _, _], _ => rfl) (fun vs H Q E h => ?_) (fun cdv A outer s H vs Q E hr h => ?_)
  · obtain ⟨m, N, F, r, b, g, nds, run, n, s, rfl, ⟨dm, hm⟩, hN, hok, hb, hl, hru, he, hg, kk⟩ := h
    rfl
  · obtain ⟨m, N, F, r, b, g, nds, run, n, s, rfl, ⟨dm, hm⟩, hN, hok, hb, hl, hru, he, hg, kk⟩ := h
    refine ⟨_, (pss_cons (pst 4 sc__law_run_right.nd (pe_cf (ok__law_is_wrong (P := P) T) (hr.mono (by decide)) (by rfl) (T.gf "_law_is_wrong") (pa_cons (pe_fd (T.cls "Mirror") (T.na "Mirror" "nodes") (pv 0)) (pa_cons (pv 2) pa_nil))))
      (pss_cons (ps_if (PW.pt (pw_and (pt_val (pv 3)) (pw_and1 (pt_val (pv 4)))))
        (pss_one (ps_ret pe_bl))
        pss_nil)
      (pss_cons (ps_for PassesOwn.never rfl (pi_list (pe_lst (pa_cons pe_str (pa_cons pe_str (pa_cons pe_str pa_nil))))) (pgn 5 sc__law_run_right.nd)
        (pss_cons (ps_asg (pe_cf (ok__law_walked (P := P) T) (hr.mono (by decide)) (by rfl) (T.gf "_law_walked") (pa_cons (pv 1) (pa_cons (pv 5) (pa_cons (pe_me (pv 0) (T.cls "Mirror") (T.me "Mirror" "steps") (ok_Mirror_steps (P := P) T) (hr.mono (by decide)) (pa_cons (pv 2) pa_nil)) pa_nil)))) (pg_tup rfl (pgs_cons (pgn 6 sc__law_run_right.nd) (pgs_cons (pgn 7 sc__law_run_right.nd) (pgs_cons (pgn 8 sc__law_run_right.nd) pgs_nil)))))
        (pss_cons (ps_expr (pe_inst (pv 6) T.callO (ok_Keeper___call__ (P := P) T) (hr.mono (by decide)) (pa_cons pe_str pa_nil)))
        (pss_one (ps_if (pt_cmpR op_ne (pe_cmpR op_ne (pe_pr (pv 6) (T.cls "Keeper") T.held (ok_Keeper_held (P := P) T) (hr.mono (by decide))) (pe_me (pv 8) (T.cls "Store") (T.me "Store" "present") (ok_Store_present (P := P) T) (hr.mono (by decide)) (pa_cons pe_str pa_nil)) (nomark _)) (pv 4) (nomark _))
          (pss_one (ps_ret pe_bl))
          pss_nil)))))
      (pss_one (ps_ret pe_bl))))), ?_⟩
    obtain ⟨zs, z1, z2, z3, z4⟩ := replay_steps hok he
    have hwt := replay_wt he
    have hwt : s.wt.length ≤ 0 + run.length := hwt
    refine ⟨_, rfl, _, _, _, _, rfl, hm, rfl, _, rfl, N, nds, b, run, n, s, rfl, hN, hb, by omega, he, by omega, fun H1 s1 => ?_⟩
    have hg2 : ∀ wr : Bool, wr = (!decide ((afterV s "receive").cp = (afterV s "receive").pr)) → g = true → wr = false := fun wr e1 e2 => by
      rw [e1, decide_eq_true (hg e2)]
      rfl
    generalize ewr : (!decide ((afterV s "receive").cp = (afterV s "receive").pr)) = wr at hg2 ⊢
    have hg3 := hg2 wr rfl
    refine ⟨_, rfl, g, rfl, ?_⟩
    have hand : (g && wr) = false := by
      cases hgb : g with
      | false => rfl
      | true => rw [hg3 hgb]; rfl
    rcases (show g = false ∨ g = true by cases g <;> simp) with hgb | hgb
    all_goals subst hgb
    all_goals try (refine ⟨_, rfl, wr, rfl, iteB (hg3 rfl) ?_⟩)
    all_goals
      refine ⟨ll rfl, fun l nl => ⟨l, rfl, ⟨_, .of upd_same⟩, ?_⟩⟩
      have s2 := s1.trans (Same.new (o := .lst [.str "take", .str "newer", .str "reread"]) nl)
      have e2 := upd_same (H := H1) (a := l) (o := .lst [.str "take", .str "newer", .str "reread"])
      generalize upd H1 l (.lst [.str "take", .str "newer", .str "reread"]) = H2 at s2 e2 ⊢
      refine for_it (walk_list (xs := List.map V.str lWays)) (fun i σ H' => ∃ gg u5 u6 u7 u8, σ = [some (.ref m), some (.str r), some (.ref b), some (.bl gg), some (.bl wr), u5, u6, u7, u8] ∧ Same H2 H') ?_ ?_ ?_ ?_
      · exact ⟨_, _, _, _, _, rfl, fun _ _ e => e⟩
      · rintro i σ H' _ ⟨gg, u5, u6, u7, u8, rfl, s3⟩
        exact .of (s3 _ _ e2)
      · rintro i x σ H3 H4 hi ⟨gg, u5, u6, u7, u8, rfl, s3⟩ ⟨rfl, hx⟩
        obtain ⟨way, hx', rfl⟩ := get_map hx
        have hway : lUPDATES.contains way = true := List.contains_iff_mem.mpr (List.mem_of_getElem? hx')
        have s4 := s2.trans s3
        refine ⟨_, rfl, _, rfl, _, rfl, _, _, _, rfl, s4 _ _ hm, rfl, _, rfl, m, N, F, b, nds, run, zs, rfl, ⟨dm, s4 _ _ hm⟩, hN.same s4, Same.tup s4 hb, by omega, z1, fun H5 rz s5 hz5 => ?_⟩
        refine ⟨r, way, rz, zs, rfl, hru, hway, hz5, by omega, z4, fun H6 A a k ret eB ew wA hk hinv hbd hret => ?_⟩
        rw [← z3] at hinv
        refine ⟨_, _, rfl, hret, rfl, _, _, rfl, _, _, rfl, _, _, rfl, rfl, ?_⟩
        refine ⟨_, rfl, A.k, rfl, .inr ⟨_, _, wA.k⟩, A, a, "receive", rfl, wA, hinv.ok hbd (by omega), .inl (by decide), fun H7 a7 w7 e7 => ?_⟩
        have hinv7 := hinv.call A.way (st := "receive") (by decide)
        have hbd7 := hbd.call (by omega) A.way "receive"
        rw [← e7] at hinv7 hbd7
        have hlen : a7.ws.length < 1000 := by
          have h1 : a7.ws.length ≤ 20 * (zs.length + 1) := hbd7.ws
          omega
        refine ⟨_, rfl, _, _, _, rfl, w7.k, A.k, A.dk, A.c, A.way, _, _, A.L, _, rfl, w7.k, w7.L, hlen, _, rfl, _, _, _, rfl, w7.S, rfl, A.S, A.ds, A.r, A.DC, A.DM, A.PL, A.QL, _, _, _, rfl, w7.S, ⟨w7.DC, w7.t⟩, held_scal _ _, ?_⟩
        have heq : decide (heldV a7.ws = V.str a7.w0) = decide ((afterV s "receive").cp = (afterV s "receive").pr) := held_eq hinv7 hk
        rw [heq, ewr]
        refine ⟨_, rfl, rfl, false, ?_, ?_⟩
        · exact congrArg V.bl (by rw [decide_eq_true rfl]; rfl)
        · have sB : Same H5 H7 := by
            have e := w7.bs
            rw [eB] at e
            exact e
          exact ⟨_, _, _, _, _, rfl, (s3.trans s5).trans sB⟩
      · rintro σ H3 ⟨gg, u5, u6, u7, u8, rfl, s3⟩
        exact kk _ (s2.trans s3)
    
end
end CN
end
section
set_option Elab.async false
set_option linter.all false
set_option maxRecDepth 100000
set_option maxHeartbeats 4000000
namespace CN
open PySem PySem.Spec PyProof.Rows L2
local macro_rules | `(tactic| trivial) => `(tactic| exact Led.get (by assumption) 9)
local macro_rules | `(tactic| trivial) => `(tactic| exact Led.get (by assumption) 8)
local macro_rules | `(tactic| trivial) => `(tactic| exact Led.get (by assumption) 7)
local macro_rules | `(tactic| trivial) => `(tactic| exact Led.get (by assumption) 6)
local macro_rules | `(tactic| trivial) => `(tactic| exact Led.get (by assumption) 5)
local macro_rules | `(tactic| trivial) => `(tactic| exact Led.get (by assumption) 4)
local macro_rules | `(tactic| trivial) => `(tactic| exact Led.get (by assumption) 3)
local macro_rules | `(tactic| trivial) => `(tactic| exact Led.get (by assumption) 2)
local macro_rules | `(tactic| trivial) => `(tactic| exact Led.get (by assumption) 1)
local macro_rules | `(tactic| trivial) => `(tactic| exact Led.get (by assumption) 0)
section
variable {P : Program} {w : World} {K : PySem.W.Frag} {mg : Str → Option Value} {base : Heap} [POk P]
theorem fO {f : Addr} {fd : FuncData} {x qual : Str} {params : Arguments} {body : List Stmt} {scope : Scope} {kws : List (Str × V)} {N ps : List Str} {k : Nat} {sp : Sp} (F : FunD K x qual params body scope [] kws f fd) (S : FnScope N ps scope)
    (len : ∀ vs H Q E, sp vs H Q E → vs.length = ps.length)
    (hbody : ∀ (cdv : Value) (A : Around) (outer : List Env) (s : Shared) (H : Hp) (vs : List V) (Q : VK) (E : XK), Room k (A.deeper (envOfC qual scope s.heap.objs.size f cdv)) → sp vs H Q E →
      ∃ t, PSs (cxOf CX0 P w K mg base N qual scope f cdv A outer s H E).nox body t ∧ t { nx := fun _ H' => Q .non H', rt := Q } (start N vs) H) : FnOk P w K mg base CX0 (k + 1) f fd ps sp :=
  F.ok (CX := CX0) S len (fun cdv A outer s H vs Q E hr h => by
    obtain ⟨t, h1, h2⟩ := hbody cdv A outer s H vs Q E hr h
    exact ⟨t, h1.nox, h2⟩)
theorem pair_len {n : Nat} : ∀ {fs : List Nat} {a : Nat}, fs.Pairwise (· < ·) → (∀ j ∈ fs, a ≤ j ∧ j < n) → fs.length ≤ n - a
  | [], a, _, _ => Nat.zero_le _
  | x :: r, a, h, hj => by
    obtain ⟨h1, h2⟩ := List.pairwise_cons.mp h
    have ih := pair_len (a := x + 1) h2 fun j hj2 => ⟨h1 j hj2, (hj j (.tail _ hj2)).2⟩
    have := hj x (.head _)
    rw [List.length_cons]
    omega
theorem sc_law : FnScope ["_law_script", "_law_pen_here", "_law_turn", "_law_nodes", "_law_finals_here", "_law_mirror", "_law_rule_here", "_law_good", "_law_lap", "_law_run"] ["_law_script"] (defScope s_law) := ⟨rfl, rfl, rfl, by decide +kernel, rfl, by decide +kernel, by decide +kernel⟩
def sp_law (K : PySem.W.Frag) : Sp := fun vs H Q E => ∃ a ns, vs = [.ref a] ∧ SqL K H a (List.map V.int ns) ∧ ns.length < 1000 ∧ ∀ H', Q (.bl true) H'
theorem ok_law (T : TX w K mg) {fd : FuncData} (F : FunD K d_law.name d_law.qual (defArgs d_law.st) (defBody d_law.st) (defScope d_law.st) [] (d_law.kws K) (d_law.ad K) fd) : FnOk P w K mg base CX0 12 (a_law K) fd ["_law_script"] (sp_law K) := by
  refine fO F sc_law (fun vs H Q E h => ?_) (fun cdv A outer s H vs Q E hr h => ?_)
  · obtain ⟨a, ns, rfl, _⟩ := h
    rfl
  obtain ⟨a, ns, rfl, hs, hl, kk⟩ := h
  refine ⟨_, (pss_cons (ps_for PassesOwn.never rfl (pi_list (pe_cf (ok__law_pens (P := P) T) (hr.mono (by decide)) (by rfl) (T.gf "_law_pens") (pa_cons (pv 0) (pa_cons pe_int pa_nil)))) (pgn 1 sc_law.nd)
        (pss_one (ps_for PassesOwn.never rfl (pi_range1 rfl (T.free "range") (pa_cons pe_int pa_nil)) (pgn 2 sc_law.nd)
          (pss_cons (pst 3 sc_law.nd (pe_cf (ok__law_mirror_nodes (P := P) T) (hr.mono (by decide)) (by rfl) (T.gf "_law_mirror_nodes") (pa_cons (pv 1) (pa_cons pe_int pa_nil))))
          (pss_cons (pst 4 sc_law.nd (pe_cf (ok__law_pick (P := P) T) (hr.mono (by decide)) (by rfl) (T.gf "_law_pick") (pa_cons (pv 1) (pa_cons (pe_lst (pa_cons (pe_cf (ok__law_finals (P := P) T) (hr.mono (by decide)) (by rfl) (T.gf "_law_finals") (pa_cons (pv 1) (pa_cons (pe_callB call_len_seq (by rfl) (T.free "len") (by decide +kernel) (pa_cons (pv 3) pa_nil)) pa_nil))) (pa_cons (pe_tup (pa_cons (pe_op op_sub (pe_callB call_len_seq (by rfl) (T.free "len") (by decide +kernel) (pa_cons (pv 3) pa_nil)) pe_int) pa_nil)) pa_nil))) pa_nil))))
          (pss_cons (ps_par (i := 5) (j := 6) rfl sc_law.nd rfl rfl (by decide) rfl rfl (pa_cons (pe_mk (T.mkr "Mirror") (ok_Mirror___init__ (P := P) T) (hr.mono (by decide)) (by rfl) (T.ref "Mirror") (pa_cons (pv 3) (pa_cons (pv 4) pa_nil))) (pa_cons (pe_cf (ok__law_rule (P := P) T) (hr.mono (by decide)) (by rfl) (T.gf "_law_rule") (pa_cons (pv 1) pa_nil)) pa_nil)) rfl)
          (pss_cons (pst 7 sc_law.nd (pe_cmpR op_isN (pe_me0 (pe_me (pv 5) (T.cls "Mirror") (T.me "Mirror" "question") (ok_Mirror_question (P := P) T) (hr.mono (by decide)) (pa_cons pe_str pa_nil)) (T.cls "Stale") (T.me "Stale" "run") (ok_Question_run (P := P) T) (hr.mono (by decide))) pe_non (nomark _)))
          (pss_one (ps_for PassesOwn.never rfl (pi_range1 rfl (T.free "range") (pa_cons (pe_ifExp (pt_val (pv 7)) pe_int pe_int) pa_nil)) (pgn 8 sc_law.nd)
            (pss_cons (pst 9 sc_law.nd (pe_cf (ok__law_cut_at_rest (P := P) T) (hr.mono (by decide)) (by rfl) (T.gf "_law_cut_at_rest") (pa_cons (pv 3) (pa_cons (pv 4) (pa_cons (pe_cf (ok__law_mirror_drawn (P := P) T) (hr.mono (by decide)) (by rfl) (T.gf "_law_mirror_drawn") (pa_cons (pv 1) (pa_cons (pv 3) (pa_cons pe_int pa_nil)))) pa_nil)))))
            (pss_one (ps_if (PW.pt (pw_and (pt_cmpR op_notN (pv 9) pe_non (nomark _)) (pw_and1 (pt_not (pt_val (pe_cf (ok__law_run_right (P := P) T) (hr.mono (by decide)) (by rfl) (T.gf "_law_run_right") (pa_cons (pv 5) (pa_cons (pv 6) (pa_cons (pv 9) (pa_cons (pv 7) pa_nil))))))))))
              (pss_one (ps_ret pe_bl))
              pss_nil))))))))))))
      (pss_one (ps_ret pe_bl))), ?_⟩
  refine ⟨_, rfl, a, ns, rfl, hs, hl, fun H1 p ps s1 np ep hlp hps hnd => ⟨_, rfl, ⟨_, .of ep⟩, ?_⟩⟩
  have npp : ∀ q ∈ ps, p ≠ q := fun q hq => Ne.symm (hps q hq).2.1
  refine for_it (walk_list (xs := List.map V.ref ps)) (fun i σ H' => ∃ u1 u2 u3 u4 u5 u6 u7 u8 u9, σ = [some (.ref a), u1, u2, u3, u4, u5, u6, u7, u8, u9] ∧ Fr ps H1 H' ∧ ∀ q ∈ ps, Pen H' q) ?_ ?_ ?_ ?_
  · exact ⟨_, _, _, _, _, _, _, _, _, rfl, Fr.refl _, fun q hq => (hps q hq).2.2⟩
  · rintro i σ H' _ ⟨u1, u2, u3, u4, u5, u6, u7, u8, u9, rfl, f, _⟩
    exact .of (f _ _ ep fun h => npp p h rfl)
  · rintro i x σ H2 H3 hi ⟨u1, u2, u3, u4, u5, u6, u7, u8, u9, rfl, f, hpen⟩ ⟨rfl, hx⟩
    obtain ⟨q, hx', rfl⟩ := get_map hx
    have hq : q ∈ ps := List.mem_of_getElem? hx'
    refine ⟨_, rfl, by decide, by decide, ?_⟩
    refine for_it walk_range (fun j σ H' => ∃ u2 u3 u4 u5 u6 u7 u8 u9, σ = [some (.ref a), some (.ref q), u2, u3, u4, u5, u6, u7, u8, u9] ∧ Dw q H3 H') ?_ (fun _ _ _ _ _ => True.intro) ?_ ?_
    · exact ⟨_, _, _, _, _, _, _, _, rfl, Dw.refl (hpen q hq)⟩
    · rintro j x σ _ H4 hj ⟨u2, u3, u4, u5, u6, u7, u8, u9, rfl, d4⟩ ⟨rfl, rfl⟩
      refine ⟨_, rfl, q, rfl, d4.n, fun H5 N nds d5 hN hok => ?_⟩
      obtain ⟨xs, hN1, hN2⟩ := id hN
      have hxl : xs.length = nds.length := Paired.length hN2
      have hn5 := hok.2.1
      have hn1 := hok.1
      refine ⟨_, rfl, _, rfl, _, rfl, _, _, rfl, .inr hN1, q, nds.length, by rw [hxl], d5.n, by omega, fun H6 F1 fs d6 hF1 hpw hlt => ?_⟩
      have hN6 := d6.tup hN1
      refine ⟨_, rfl, _, _, rfl, .inr hN6, _, _, rfl, rfl, ll rfl, fun F2 nF2 => ⟨ll rfl, fun l nl => ?_⟩⟩
      have s7 := (Same.new (o := .tup [.int ((xs.length : Int) - 1)]) nF2).trans (Same.new (o := .lst [.ref F1, .ref F2]) nl)
      have e7 := Same.new (o := .lst [.ref F1, .ref F2]) nl _ _ (upd_same (H := H6) (a := F2) (o := .tup [.int ((xs.length : Int) - 1)]))
      have el := upd_same (H := upd H6 F2 (.tup [.int ((xs.length : Int) - 1)])) (a := l) (o := .lst [.ref F1, .ref F2])
      have d7 := (d6.thn (Same.new (o := .tup [.int ((xs.length : Int) - 1)]) nF2)).thn (Same.new (o := .lst [.ref F1, .ref F2]) nl)
      generalize upd (upd H6 F2 (.tup [.int ((xs.length : Int) - 1)])) l (.lst [.ref F1, .ref F2]) = H7 at s7 e7 el d7 ⊢
      have nlq : l ≠ q := fun e => by
        obtain ⟨x, y, z, e9, _⟩ := d6.n
        rw [e] at nl
        rw [(Same.new (o := .tup [.int ((xs.length : Int) - 1)]) nF2) _ _ e9] at nl
        cases nl
      refine ⟨q, l, _, rfl, d7.n, .of el, nlq, by show 0 < 2; decide, by show 2 < 1000; decide, fun H8 x d8 hx => ?_⟩
      obtain ⟨FF, ffs, rfl, hFF, hfw, hflt⟩ : ∃ FF ffs, x = V.ref FF ∧ SqT K H8 FF (fV ffs) ∧ ffs.Pairwise (· < ·) ∧ ∀ j ∈ ffs, j < nds.length := by
        rcases List.mem_cons.mp hx with rfl | hx
        · exact ⟨F1, fs, rfl, d8.tup (Same.tup s7 hF1), hpw, hlt⟩
        · rw [List.mem_singleton.mp hx]
          refine ⟨F2, [nds.length - 1], rfl, d8.tup (.of ?_), List.pairwise_singleton _ _, fun j hj => by rw [List.mem_singleton.mp hj]; omega⟩
          have e : ((xs.length : Int) - 1) = ((nds.length - 1 : Nat) : Int) := by omega
          rw [e] at e7
          exact e7
      have dN : Dw q H5 H8 := d7.trans d8
      have hN8 := hN.dw dN
      have hfl : ffs.length < 1000 := by
        have := pair_len (a := 0) hfw fun j hj => ⟨Nat.zero_le _, hflt j hj⟩
        omega
      refine ⟨_, rfl, _, rfl, fun m dm nm ndm nem => ?_⟩
      have s9 : Same H8 (upd (upd H8 dm (.own m)) m (.ins (He.ga K "Mirror") dm [])) := (Same.new ndm).trans (Same.new (by rw [upd_ne (Ne.symm nem)]; exact nm))
      have em9 := upd_same (H := upd H8 dm (.own m)) (a := m) (o := .ins (He.ga K "Mirror") dm [])
      generalize upd (upd H8 dm (.own m)) m (.ins (He.ga K "Mirror") dm []) = H9 at s9 em9 ⊢
      refine ⟨m, dm, N, nds, FF, ffs, rfl, em9, hN8.same s9, hok, Same.tup s9 hFF, hfw, hflt, hfl, fun H10 f10 em10 => ⟨rfl, ?_⟩⟩
      have s10 : Same H8 H10 := (Fr.drop nm ((Fr.same s9).trans f10)).toSame
      have p10 : Pen H10 q := d8.n.same s10
      refine ⟨_, rfl, q, rfl, p10, fun H11 r d11 hr11 => ⟨_, _, rfl, ?_⟩⟩
      have hru : lRULES.contains r = true := List.contains_iff_mem.mpr hr11
      have em11 : H11 m = some (.ins (He.ga K "Mirror") dm [("nodes", .ref N), ("finals", .ref FF)]) := d11.keep em10 fun _ z => nomatch z
      have hN11 := (hN8.same s10).dw d11
      have hF11 := d11.tup (Same.tup s10 hFF)
      have d12 : Dw q H3 H11 := ((d4.trans d5).trans dN).trans ((Dw.same d8.n s10).trans d11)
      refine ⟨_, rfl, _, _, _, rfl, em11, rfl, m, rfl, fun H12 qu s12 nqu hqu => ?_⟩
      obtain ⟨dq, eq⟩ := id hqu
      have hM12 : Mir K H12 m N FF := ⟨dm, s12 _ _ em11⟩
      refine ⟨_, _, _, rfl, eq, rfl, qu, m, N, FF, nds, ffs, rfl, hqu, hM12, hN11.same s12, hok, Same.tup s12 hF11, fun H13 v line s13 hz hcl hbad hv => ?_⟩
      have s14 := s12.trans s13
      have d14 : Dw q H3 H13 := d12.thn s14
      have hM14 : Mir K H13 m N FF := ⟨dm, s14 _ _ em11⟩
      have hN14 := hN11.same s14
      have hF14 := Same.tup s14 hF11
      have hgood : ∀ g : Bool, g = decide (v = .non) → g = true → ∀ {run : List Int} {mm : Nat} {tt : VS}, replay nds 0 startV run = some (mm, tt) → mm ∈ ffs → tt.wk = none → (afterV tt "receive").cp = (afterV tt "receive").pr := fun g e1 e2 {run mm tt} h1 h2 h3 =>
        sound hok hz hcl (hbad (of_decide_eq_true (e1.symm.trans e2))) h1 h2 h3
      refine ⟨rfl, ?_⟩
      generalize eg : decide (v = V.non) = g
      have hgood := fun e2 => @hgood g eg.symm e2
      refine ⟨_, rfl, g, rfl, ?_⟩
      rcases (show g = false ∨ g = true by cases g <;> simp) with hgb | hgb
      all_goals subst hgb
      all_goals
        refine ⟨_, rfl, by decide, by decide, ?_⟩
        refine for_it walk_range (fun k σ H' => ∃ u8 u9 gg, σ = [some (.ref a), some (.ref q), some (.int (0 + (j : Nat))), some (.ref N), some (.ref FF), some (.ref m), some (.str r), some (.bl gg), u8, u9] ∧ (gg = true → ∀ {run : List Int} {mm : Nat} {tt : VS}, replay nds 0 startV run = some (mm, tt) → mm ∈ ffs → tt.wk = none → (afterV tt "receive").cp = (afterV tt "receive").pr) ∧ Dw q H13 H') ?_ (fun _ _ _ _ _ => True.intro) ?_ ?_
        · exact ⟨_, _, _, rfl, hgood, Dw.refl d14.n⟩
        · rintro k x σ _ H15 hk ⟨u8, u9, gg, rfl, hgg, d15⟩ ⟨rfl, rfl⟩
          have hM15 : Mir K H15 m N FF := ⟨dm, d15.keep (s14 _ _ em11) fun _ z => nomatch z⟩
          have hN15 := hN14.dw d15
          have hF15 := d15.tup hF14
          refine ⟨_, rfl, _, rfl, _, rfl, _, rfl, q, N, nds, rfl, d15.n, hN15, hok, fun H16 rr run mm d16 hr16 hl16 hw16 => ?_⟩
          have hM16 : Mir K H16 m N FF := ⟨dm, (d15.trans d16).keep (s14 _ _ em11) fun _ z => nomatch z⟩
          have hN16 := hN15.dw d16
          have hF16 := d16.tup hF15
          refine ⟨N, FF, rr, nds, ffs, run, mm, rfl, hN16, hF16, hr16, hl16, hw16, fun H17 v17 s17 hv17 => ?_⟩
          have hM17 : Mir K H17 m N FF := by
            obtain ⟨dm', e⟩ := hM16
            exact ⟨dm', s17 _ _ e⟩
          rcases hv17 with rfl | ⟨r2, kk2, n2, st2, rfl, hk2, hr2, hp2, hn2, hwk2⟩
          · refine ⟨_, rfl, rfl, false, rfl, ?_⟩
            exact ⟨_, _, _, rfl, hgg, (d15.trans d16).thn s17⟩
          · refine ⟨_, rfl, rfl, true, rfl, ?_⟩
            refine ⟨_, rfl, _, rfl, _, rfl, _, rfl, m, N, FF, r, r2, gg, nds, run.take kk2, n2, st2, rfl, hM17, hN16.same s17, hok, hr2, by rw [List.length_take]; omega, hru, hp2, fun e => hgg e hp2 hn2 hwk2, fun H18 s18 => ⟨true, rfl, ?_⟩⟩
            exact ⟨_, _, _, rfl, hgg, ((d15.trans d16).thn s17).thn s18⟩
        · rintro σ H15 ⟨u8, u9, gg, rfl, hgg, d15⟩
          exact ⟨_, _, _, _, _, _, _, _, rfl, d14.trans d15⟩
    · rintro σ H4 ⟨u2, u3, u4, u5, u6, u7, u8, u9, rfl, d4⟩
      refine ⟨_, _, _, _, _, _, _, _, _, rfl, f.trans (d4.f.mono fun b hb => by rw [List.mem_singleton.mp hb]; exact hq), fun q' hq' => ?_⟩
      by_cases e : q' = q
      · rw [e]
        exact d4.n
      · obtain ⟨x, y, z, h1, h2⟩ := hpen q' hq'
        exact ⟨x, y, z, d4.f _ _ h1 (by simpa using e), h2⟩
  · rintro σ H4 ⟨u1, u2, u3, u4, u5, u6, u7, u8, u9, rfl, f, hpen⟩
    exact kk _

end
end CN
end
section
set_option Elab.async false
set_option linter.all false
set_option maxRecDepth 100000
set_option maxHeartbeats 4000000
namespace CN
open PySem PySem.Spec PyProof.Rows L2
instance pok : POk (PySem.Challenge.rw_closenews_k52_whole_never_stale).prog := ⟨by decide +kernel, by decide +kernel⟩
theorem tx_of {w : World} {K : PySem.W.Frag} {h : Heap} {mg : Str → Option Value} (X : K.In h) (G : h.Ns mainGlobals mg) (c : SaysC fa ds xs ts w K) : TX w K mg :=
  ⟨c, fun y r e => PySem.W.mg_of X G e, fun y e => PySem.W.mg_none_of X G e⟩
theorem facts {w : World} {K : PySem.W.Frag} {h : Heap} {mg : Str → Option Value} {f : Addr} (X : K.In h) (G : h.Ns mainGlobals mg) (hfa : mg ("law" : Str) = some (.ref f)) (c : SaysC fa ds xs ts w K) :
    ∃ fd : FuncData, (∀ (s : Shared) (v : Value), BindsTo s fd ⟨[v], []⟩ [("_law_script", v)]) ∧ ∀ base : Heap, K.In base → base.Ns mainGlobals mg → FnOk (PySem.Challenge.rw_closenews_k52_whole_never_stale).prog w K mg base CX0 12 f fd ["_law_script"] (sp_law K) := by
  have T := tx_of X G c
  obtain ⟨fd, F⟩ := T.fn 89 rfl rfl
  have e := hfa.symm.trans (T.ref "law")
  cases e
  have b := FunD.bindsA (ps := ["_law_script"]) F fun _ _ _ _ _ _ us hl => match us, hl with | [_], _ => rfl
  exact ⟨fd, fun s v => b s [v] rfl, fun base _ _ => ok_law T F⟩
end CN
open PySem PySem.W PySem.Calls PyProof.Rows
theorem PySem.Challenge.cw_closenews_k52_whole_never_stale_holds : PySem.Challenge.rw_closenews_k52_whole_never_stale.Holds := by
  w_on; o_law
  refine HandSHeadRun.head_any (r := HeadC.R) (q := HeadC.qv) (H := HeadC.hk) (ob := HeadC.ob) (M := 14000) (loose := HeadC.names) (d := HandSHeadRun.topDef HeadC.R.prog 95) (kwd := []) HeadC.ob_eq
    (by kernel_rfl) (fun s => by kernel_rfl) (fun w => PySem.W.byRow2 "special-get-raises" (fun w => HeadC.run_at w false) (fun w => HeadC.run_at w true) w) (by kernel_rfl) (by kernel_rfl) (by kernel_rfl) (by rfl) (by first | assumption | decide +kernel) (by decide +kernel) ⟨rfl, rfl, rfl, rfl, rfl, by decide +kernel⟩ ?hw ?hc
  case hw => w_witness2
  case hc =>
    refine L2.walk_ofE (l := PySem.Challenge.rw_closenews_k52_whole_never_stale) (n := 63) (k := 12) (x := "_law_script") (CX := L2.CX0) rfl (by rw [sizeLine_eq]; decide) (by kernel_rfl) ⟨rfl, by decide, by decide⟩ ?F (fun _ _ _ _ z => z)
    intro w mg fa h Y G hmg0
    obtain ⟨K, KX, c⟩ := Y
    have hmg : mg ("law" : PySem.Str) = some (.ref fa) := by
      have e : (HandSHeadRun.topDef HeadC.R.prog 95).name = ("law" : PySem.Str) := by kernel_rfl
      rw [← e]
      exact hmg0
    obtain ⟨fd, hb, hF⟩ := CN.facts (w := w) KX G hmg c
    exact ⟨K, fd, CN.sp_law K, KX, hb, fun H a ns hl _ hS => ⟨a, ns, rfl, hS, by omega, fun _ => rfl⟩, hF⟩
end
