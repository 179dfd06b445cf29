import PyProof.Rows.All
import Wide.All
import OpenK.AllK
import Wide.FinOn
import KE.KStateDown
import HandS.Base
import HandS.Call
import HandS.Defaults
import HandS.HeadHook1
import HandS.HeadHook2
import HandS.HeadHook4
import HandS.ForMost
import HandS.More
import HandS.Property
import HandS.ClsMeth
import HandS.IsInst
import HandS.DictComp
import HandS.ListItems
import HandS.Conv
import HandS.Style
import HandS.Zip
import HandS.TupMul
import HandS.TupAny
import HandS.Deep
import HandS.OwnEq
import HandS.SetKeys
import HandS.HeadEnd
import HandS.Head0
import HandS.Head1
import HandS.Head2
import HandS.Strs
import HandS.TupSets
import KE.DatumOrd
import KE.KDictList
import HandS.SetFor
import KE.GoesMore
import KE.GoesEnum
import HandS.DeepEq
import HandS.WordsDict
import HandS.Nested
import KE.KSuper
import OpenK.KMeth
import KE.KDictZip
import KE.SortData
import HandS.Text
import PyProof.FitsReplace
import PyProof.Rows.ReprOcc
import PySem.Challenge.RW_quietsums_k14_whole_spaces_against_all_s
/-! HK0 -/
set_option Elab.async false
set_option linter.all false
set_option maxRecDepth 100000
set_option maxHeartbeats 4000000
/-! HK0: a Hook of one's own: any Bools of the part of the heap that is looked at, each def at an address that any function of it names. -/
namespace HK
open PySem PySem.Spec PyProof.Rows L2 He
abbrev AF := PySem.W.Frag → Addr
abbrev FnE : Type := Option (Str × Str × Arguments × FuncBody × Scope × Addr × List Str × Addr)
def fnE (K : PySem.W.Frag) (a : Addr) : FnE := match K.lookup a with
  | some ⟨_, _, .func fd, _⟩ => some (fd.name, fd.qualname, fd.params, fd.body, fd.scope, fd.globals, fd.closure.map (·.1), fd.builtins)
  | _ => none
structure DefE where
  at_ : AF
  name : Str
  qual : Str
  params : Arguments
  body : List Stmt
  scope : Scope
  dfl : List Dv := []
  clo : List Str := []
def DefE.val (d : DefE) : FnE := some (d.name, d.qual, d.params, .stmts d.body, d.scope, mainGlobals, d.clo, builtinsNs)
def DefE.dvs (K : PySem.W.Frag) (d : DefE) : List V := d.dfl.map (Dv.v K)
def DefE.ok (K : PySem.W.Frag) (d : DefE) : Bool := match K.lookup (d.at_ K) with
  | some ⟨_, _, .func fd, _⟩ => PySem.W.codeIn K fd.code d.qual && dflB K fd.defaults (d.dvs K)
  | _ => false
theorem DefE.look {K : PySem.W.Frag} {d : DefE} (e : fnE K (d.at_ K) = d.val) (c : d.ok K = true) : ∃ (oc : Value) (od : Option Addr) (cl : List (Str × Addr)) (dV kV doc pm : Value) (an : Option Addr) (cdv ct : Value) (osl : Array (Option Value)),
    K.lookup (d.at_ K) = some ⟨oc, od, .func (PySem.W.fnX d.name d.qual d.params d.body d.scope cl dV kV doc pm an cdv ct), osl⟩ ∧ PySem.W.codeIn K cdv d.qual = true ∧ DflV K dV (d.dvs K) ∧ cl.map (·.1) = d.clo := by
  unfold fnE at e
  unfold DefE.ok at c
  cases q : K.lookup (d.at_ K) with
  | none =>
    rw [q] at c
    cases c
  | some o =>
    obtain ⟨oc, od, dt, osl⟩ := o
    rw [q] at c e
    cases dt with
    | func fd =>
      obtain ⟨n1, n2, n3, n4, n5, n6, n7, n8, n9, n10, n11, n12, n13, n14, n15⟩ := fd
      have e2 : (some (n1, n2, n3, n4, n5, n6, n7.map (·.1), n15) : FnE) = some (d.name, d.qual, d.params, .stmts d.body, d.scope, mainGlobals, d.clo, builtinsNs) := e
      simp only [Option.some.injEq, Prod.mk.injEq] at e2
      obtain ⟨h1, h2, h3, h4, h5, h6, h7, h8⟩ := e2
      subst h1 h2 h3 h4 h5 h6 h8
      have c3 : (PySem.W.codeIn K n13 d.qual && dflB K n8 (d.dvs K)) = true := c
      obtain ⟨k1, k2⟩ := ba c3
      exact ⟨oc, od, n7, n8, n9, n10, n11, n12, n13, n14, osl, rfl, k1, dflB_ok k2, h7⟩
    | _ => cases c
theorem keep_fn {K : PySem.W.Frag} {a : Addr} {oc : Value} {od : Option Addr} {fd : FuncData} {osl : Array (Option Value)} (q : K.lookup a = some ⟨oc, od, .func fd, osl⟩) : PySem.W.keepIn K (.ref a) = true := by
  show (match K.lookup a with
    | some ⟨_, _, .func _, _⟩ => true
    | some ⟨_, _, .cls _, _⟩ => PySem.W.specialIn K (.ref a) "__call__" == some (some (.builtin "type.__call__"))
    | _ => false) = true
  rw [q]
theorem DefE.funD {K : PySem.W.Frag} {d : DefE} (e : fnE K (d.at_ K) = d.val) (c : d.ok K = true) (hc : d.clo = [] := by rfl) : ∃ fd, FunD K d.name d.qual d.params d.body d.scope (d.dvs K) [] (d.at_ K) fd := by
  obtain ⟨oc, od, cl, dV, kV, doc, pm, an, cdv, ct, osl, lk, hcd, hd, hcl⟩ := DefE.look e c
  rw [hc] at hcl
  have e0 : cl = [] := List.map_eq_nil_iff.mp hcl
  subst e0
  exact ⟨_, ⟨oc, od, dV, kV, doc, pm, an, cdv, ct, osl, rfl, lk, hcd, hd, .inl rfl⟩, keep_fn lk⟩
/-! ### what is looked at -/
/-- what an object names; of a class its own dict alone -/
def refsM (o : Obj) : List Addr := match o.data with
  | .seq its _ => its.toList.flatMap refV
  | .dict es _ => es.toList.flatMap fun e => refV e.val
  | .func fd => refV fd.code ++ (refV fd.defaults ++ fd.closure.map (·.2))
  | .cls cd => [cd.ns]
  | .fields vs => vs.toList.flatMap refV
  | .cell (some v) => refV v
  | _ => []
def stepM (g : Addr → Option Obj) (as : List Addr) : List Addr := as.flatMap fun a => match g a with
  | some o => refsM o
  | none => []
/-- what the module's names reach in n steps, each step's own once -/
def levM (g : Addr → Option Obj) : Nat → List Addr → List Addr
  | 0, as => as
  | n + 1, as => as ++ levM g n (stepM g as)
def asE (g : Addr → Option Obj) (n : Nat) : List Addr := cStatics :: levM g n [mainGlobals]
abbrev AlE : Type := Bool × List FnE
def obsE (fb : List (PySem.W.Frag → Bool)) (fn : List DefE) (K : PySem.W.Frag) : AlE := ((fb.all fun f => f K) && fn.all fun d => d.ok K, fn.map fun d => fnE K (d.at_ K))
def valE (fn : List DefE) : AlE := (true, fn.map DefE.val)
def SaysE (fb : List (PySem.W.Frag → Bool)) (fn : List DefE) (K : PySem.W.Frag) : Prop := obsE fb fn K = valE fn
def obsG (n : Nat) (fb : List (PySem.W.Frag → Bool)) (fn : List DefE) (g : Addr → Option Obj) : AlE := obsE fb fn (frG g (asE g n))
def hookE (n : Nat) (fb : List (PySem.W.Frag → Bool)) (fn : List DefE) : PySem.W.Hook where
  α := AlE
  obs := fun s => obsG n fb fn s.heap.get?
  val := fun _ => valE fn
  says := fun _ h => ∃ K : PySem.W.Frag, K.In h ∧ SaysE fb fn K
  of := fun _ _ e => ⟨_, frG_in, e⟩
  keeps := fun _ _ _ ⟨K, hK, c⟩ k => ⟨K, PySem.W.Frag.In.keeps hK k, c⟩
theorem obsG_eq {n : Nat} {fb : List (PySem.W.Frag → Bool)} {fn : List DefE} {g : Addr → Option Obj} {s : Shared} (h : ∀ a, g a = s.heap.get? a) : obsG n fb fn g = (hookE n fb fn).obs s := by
  have e : g = s.heap.get? := funext h
  rw [e] <;> rfl
section
variable {fb : List (PySem.W.Frag → Bool)} {fn : List DefE} {K : PySem.W.Frag}
theorem SaysE.fact (c : SaysE fb fn K) (i : Nat) {f : PySem.W.Frag → Bool} (h : fb[i]? = some f := by rfl) : f K = true := by
  have c1 := (ba (show ((fb.all fun f => f K) && fn.all fun d => d.ok K) = true from congrArg (fun z : AlE => z.1) c)).1
  exact List.all_eq_true.mp c1 f (List.mem_of_getElem? h)
theorem SaysE.at_ (c : SaysE fb fn K) (i : Nat) {d : DefE} (h : fn[i]? = some d := by rfl) : fnE K (d.at_ K) = d.val ∧ d.ok K = true := by
  have c2 := (ba (show ((fb.all fun f => f K) && fn.all fun d => d.ok K) = true from congrArg (fun z : AlE => z.1) c)).2
  have e : fn.map (fun d => fnE K (d.at_ K)) = fn.map DefE.val := congrArg (fun z : AlE => z.2) c
  have e2 : (fn.map fun d => fnE K (d.at_ K))[i]? = (fn.map DefE.val)[i]? := by rw [e]
  rw [List.getElem?_map, List.getElem?_map, h] at e2
  exact ⟨Option.some.inj e2, List.all_eq_true.mp c2 d (List.mem_of_getElem? h)⟩
theorem SaysE.def_ (c : SaysE fb fn K) (i : Nat) {d : DefE} (h : fn[i]? = some d := by rfl) (hc : d.clo = [] := by rfl) : ∃ fd, FunD K d.name d.qual d.params d.body d.scope (d.dvs K) [] (d.at_ K) fd := by
  obtain ⟨e, k⟩ := c.at_ i h
  exact DefE.funD e k hc
end
end HK
/-! R0 -/
set_option Elab.async false
set_option linter.all false
set_option maxRecDepth 100000
set_option maxHeartbeats 4000000
/-! R0: calls as one judgement (GC, GN), names of the module as values, built-in classes as values. -/
namespace K14
open PySem PySem.Spec PyProof.Rows L2

/-- the value v, called with positional values, keeps the promise sp -/
def GC (P : Program) (w : World) (K : PySem.W.Frag) (mg : Str → Option Value) (base : Heap) (k : Nat) (v : Value) (sp : Sp) : Prop :=
  ∀ (X : Cx), X.prog = P → X.w = w → X.K = K → X.mg = mg → X.base = base → Room k X.A → ∀ (pins : List (Addr × Obj)) (s : Shared) (σ : L2.St) (H : Hp) (us : List Value) (vs : List V) (Q : VK),
    Inv X pins σ H s → Vals vs us → sp vs H Q E0 → wpAny (model X.prog X.w) X.A (call v us) (EP X pins σ Q) X.xe s
section
variable {P : Program} {w : World} {K : PySem.W.Frag} {mg : Str → Option Value} {base : Heap}
theorem GC.imp {k : Nat} {v : Value} {sp sp' : Sp} (G : GC P w K mg base k v sp) (h : ∀ vs H Q, sp' vs H Q E0 → sp vs H Q E0) : GC P w K mg base k v sp' :=
  fun X e1 e2 e3 e4 e5 hr pins s σ H us vs Q I r q => G X e1 e2 e3 e4 e5 hr pins s σ H us vs Q I r (h _ _ _ q)
theorem GC.mono {j k : Nat} {v : Value} {sp : Sp} (G : GC P w K mg base j v sp) (h : j ≤ k) : GC P w K mg base k v sp :=
  fun X e1 e2 e3 e4 e5 hr => G X e1 e2 e3 e4 e5 (hr.mono h)
theorem gc_fn {k : Nat} {f : Addr} {fd : FuncData} {ps : List Str} {ds : List Value} {dvs : List V} {sp : Sp} (F : FnOk P w K mg base CX0 k f fd ps sp) (hb : Binds K fd ps ds) (hd : Vals dvs ds) :
    GC P w K mg base k (.ref f) (fun vs H Q E => sp (vs ++ dvs) H Q E) := by
  intro X e1 e2 e3 e4 e5 hr pins s σ H us vs Q I r q
  subst e1 e2 e3 e4 e5
  exact run_fn F hr hb hd pass0 I r q
/-- a class made: a new instance and its dict, then __init__ -/
def mkSp (C : Addr) (sp : Sp) : Sp := fun vs H Q E => ∀ x dx, H x = none → H dx = none → dx ≠ x → sp (.ref x :: vs) (upd (upd H dx (.own x)) x (.ins C dx [])) (fun v H2 => v = .non ∧ Q (.ref x) H2) E
theorem gc_make {k : Nat} {f C : Addr} {fd : FuncData} {ps : List Str} {ds : List Value} {dvs : List V} {sp : Sp} (M : Mk K C f) (F : FnOk P w K mg base CX0 k f fd ps sp) (hb : Binds K fd ps ds) (hd : Vals dvs ds) :
    GC P w K mg base (k + 1) (.ref C) (mkSp C fun vs H Q E => sp (vs ++ dvs) H Q E) := by
  intro X e1 e2 e3 e4 e5 hr pins s σ H us vs Q I r q
  subst e1 e2 e3 e4 e5
  exact run_make M F hr hb hd pass0 I r q
/-- .. by the module's name -/
structure GN (P : Program) (w : World) (K : PySem.W.Frag) (mg : Str → Option Value) (base : Heap) (k : Nat) (x : Str) (sp : Sp) : Prop where
  ex : ∃ u, mg x = some u ∧ PySem.W.keepIn K u = true ∧ GC P w K mg base k u sp
end
def tG (sp : Sp) (t : TA) : TE := fun σ H Q => t σ H fun vs H1 => sp vs H1 Q E0
section
variable {X : Cx} {j k : Nat} {x : Str} {sp : Sp} {p pos : Pos} {e : Expr} {es : List Expr} {t : TA}
/-- f(e, ..), C(e, ..) -/
theorem pe_g (G : GN X.prog X.w X.K X.mg X.base j x sp) (hr : Room k X.A) (hg : Gl X x) (ha : PA X (e :: es) t) (hl : j ≤ k := by decide) (hdb : (x == ("__debug__" : Str)) = false := by decide)
    (he : starEach (e :: es) X.env = (false, eval e X.env) :: starEach es X.env := by rfl) (hpl : (backTo pos (starEach es X.env)).any (·.1) = false := by rfl) : PE X (.Call (.Name x p) (e :: es) [] pos) (tG sp t) := by
  refine ⟨fun pins s σ H Q I h => ?_⟩
  obtain ⟨u, hm, hk, F⟩ := G.ex
  refine wpAny_Call_Name_kw (ld_glob I hg hm ?_ hdb)
  refine PySem.W.callWith_K (h₀ := X.base) I.ok.mod.kin hk (thn (ha.run pos pins s σ H _ I h) fun us s1 ⟨vs, H1, I1, r, q⟩ => ⟨I1.kIn, ?_⟩) he hpl
  exact F X rfl rfl rfl rfl rfl (hr.mono hl) pins s1 σ H1 us vs Q I1 r q
/-- f(e, ..), f a name of the def that holds the function or the class u -/
def tGv (i : Nat) (v : V) (sp : Sp) (t : TA) : TE := fun σ H Q => σ[i]? = some (some v) ∧ t σ H fun vs H1 => sp vs H1 Q E0
theorem pe_gv {i : Nat} {v : V} {u : Value} (hv : ∀ u', RelV v u' → u' = u) (G : GC X.prog X.w X.K X.mg X.base j u sp) (hk : PySem.W.keepIn X.K u = true) (hr : Room k X.A) (hN : X.N[i]? = some x) (hx : Vis X.env.scope x) (ha : PA X (e :: es) t) (hl : j ≤ k := by decide)
    (hd : (x == ("__debug__" : Str)) = false := by decide) (hcd : (x == ("__classdict__" : Str)) = false := by decide)
    (he : starEach (e :: es) X.env = (false, eval e X.env) :: starEach es X.env := by rfl) (hpl : (backTo pos (starEach es X.env)).any (·.1) = false := by rfl) : PE X (.Call (.Name x p) (e :: es) [] pos) (tGv i v sp t) := by
  refine ⟨fun pins s σ H Q I h => ?_⟩
  obtain ⟨h1, h2⟩ := h
  refine wpAny_Call_Name_kw (thn ((pe_var (pos := p) hN hx hd hcd).run pins s σ H (fun v' H' => v' = v ∧ H' = H) I ⟨v, h1, rfl, rfl⟩) fun u' s' ⟨v', H', I', r', e1, e2⟩ => ?_)
  subst e1 e2
  have eu := hv u' r'
  subst eu
  refine PySem.W.callWith_K (h₀ := X.base) I.ok.mod.kin hk (thn (ha.run pos pins s' σ H' _ I' h2) fun us s1 ⟨vs, H1, I1, r, q⟩ => ⟨I1.kIn, ?_⟩) he hpl
  exact G X rfl rfl rfl rfl rfl (hr.mono hl) pins s1 σ H1 us vs Q I1 r q
/-- a name of the module as a value -/
theorem pe_gref {a : Addr} (hg : Gl X x) (hm : X.mg x = some (.ref a)) (hd : (x == ("__debug__" : Str)) = false := by decide) : PE X (.Name x pos) (tC (.ref a)) := pe_glob hg hm rfl hd
theorem pe_gstr {z : Str} (hg : Gl X x) (hm : ∃ t, X.mg x = some (.str z t)) (hd : (x == ("__debug__" : Str)) = false := by decide) : PE X (.Name x pos) (tC (.str z)) := by
  obtain ⟨t, hm⟩ := hm
  exact pe_glob hg hm ⟨t, rfl⟩ hd
theorem pe_gint {i : Int} (hg : Gl X x) (hm : ∃ t, X.mg x = some (.int i t)) (hd : (x == ("__debug__" : Str)) = false := by decide) : PE X (.Name x pos) (tC (.int i)) := by
  obtain ⟨t, hm⟩ := hm
  exact pe_glob hg hm ⟨t, rfl⟩ hd
theorem pe_ty {n : String} (hv : bootBuiltins x = some (.type n)) (hg : Gl X x) (hm : X.mg x = none) (hn : x ≠ "__name__" := by decide) (hd : (x == ("__debug__" : Str)) = false := by decide) : PE X (.Name x pos) (tC (.ty n)) :=
  pe_bltn hg hm hv rfl hn hd
end
/-! ### methods by GC -/
/-- o.m(e, ..), o an instance of the class at C -/
def tM (C : Addr) (m : Str) (sp : Sp) (ta : TE) (t : TA) : TE := fun σ H Q => ta σ H fun x H1 => ∃ a dx fs, x = .ref a ∧ H1 a = some (.ins C dx fs) ∧ fs.lookup m = none ∧ t σ H1 fun vs H2 => sp (x :: vs) H2 Q E0
section
variable {X : Cx} {j k : Nat} {m : Str} {C f : Addr} {sp : Sp} {apos pos : Pos} {o e : Expr} {es : List Expr} {ta : TE} {t : TA} {pl : Sem Bool}
theorem pe_m (he : PE X o ta) (c : Cls X.K C) (hm : Meth X.K C m f) (G : GC X.prog X.w X.K X.mg X.base j (.ref f) sp) (hr : Room k X.A) (ha : PA X (e :: es) t) (hl : j ≤ k := by decide)
    (hst : starEach (e :: es) X.env = (false, eval e X.env) :: starEach es X.env := by rfl) (hpl : (backTo pos (starEach es X.env)).any (·.1) = false := by rfl)
    (ht : eval (.Call (.Attribute o m apos) (e :: es) [] pos) X.env = (do
      let ov ← eval o X.env
      standAt apos.atName
      let (f, first) ← holding [ov] (getMethod ov m pl)
      callWith pos f first (backTo pos (starEach (e :: es) X.env)) (backToKw pos (keywordEach [] X.env))) := by rfl) :
    PE X (.Call (.Attribute o m apos) (e :: es) [] pos) (tM C m sp ta t) := by
  refine ⟨fun pins s σ H Q I h => ?_⟩
  refine PySem.W.methodCall_KW (pl := pl) (thn (he.run pins s σ H _ I h) fun u s1 ⟨x, H1, I1, rx, a, dx, fs, ex, ea, l, q⟩ => ?_) ht
  subst ex
  obtain rfl : u = Value.ref a := rx
  refine getmeth_ok I1 ea c hm l ?_
  refine PySem.W.callWith_K (first := [.ref a]) (h₀ := X.base) I.ok.mod.kin hm.kp (thn (ha.run pos pins s1 σ H1 _ I1 q) fun us s2 ⟨vs, H2, I2, r, q2⟩ => ⟨I2.kIn, ?_⟩) hst hpl
  exact G X rfl rfl rfl rfl rfl (hr.mono hl) pins s2 σ H2 (.ref a :: us) (.ref a :: vs) Q I2 (.cons rfl r) q2
theorem pe_m0 (he : PE X o ta) (c : Cls X.K C) (hm : Meth X.K C m f) (G : GC X.prog X.w X.K X.mg X.base j (.ref f) sp) (hr : Room k X.A) (hl : j ≤ k := by decide)
    (ht : eval (.Call (.Attribute o m apos) [] [] pos) X.env = (do
      let ov ← eval o X.env
      standAt apos.atName
      let (f, first) ← holding [ov] (getMethod ov m pl)
      callWith pos f first (backTo pos (starEach [] X.env)) (backToKw pos (keywordEach [] X.env))) := by rfl) :
    PE X (.Call (.Attribute o m apos) [] [] pos) (tM C m sp ta tNil) := by
  refine ⟨fun pins s σ H Q I h => ?_⟩
  refine PySem.W.methodCall_KW (pl := pl) (thn (he.run pins s σ H _ I h) fun u s1 ⟨x, H1, I1, rx, a, dx, fs, ex, ea, l, q⟩ => ?_) ht
  subst ex
  obtain rfl : u = Value.ref a := rx
  refine getmeth_ok I1 ea c hm l ?_
  exact PySem.W.callWith_K0 (first := [.ref a]) I1.kIn hm.kp (G X rfl rfl rfl rfl rfl (hr.mono hl) pins s1 σ H1 [.ref a] [.ref a] Q I1 (.cons rfl .nil) q)
end
end K14
/-! R1 -/
set_option Elab.async false
set_option linter.all false
set_option maxRecDepth 100000
set_option maxHeartbeats 4000000
/-! R1: rules of the layer with the written part K said (within a comprehension's block the readings must not speak of the block's own context). -/
namespace K14
open PySem PySem.Spec PyProof.Rows L2
section
variable {X : Cx} {K : PySem.W.Frag}
theorem pe_fld' {e : Expr} {f : Str} {ta : TE} {pos : Pos} (he : PE X e ta) (hb : attributeBase e f X.env (eval e X.env) = eval e X.env := by rfl) (hK : X.K = K := by rfl) : PE X (.Attribute e f pos) (tFld K ta f) := by
  subst hK
  exact pe_fld he hb
theorem op_in_seq' (hK : X.K = K := by rfl) : OpR X (compareOp .In) (rIn K false) := by
  subst hK
  exact op_in_seq
theorem op_notIn_seq' (hK : X.K = K := by rfl) : OpR X (compareOp .NotIn) (rIn K true) := by
  subst hK
  exact op_notIn_seq
theorem op_inD' (hu : X.A.units + 65 < cLine) (hK : X.K = K := by rfl) : OpR X (compareOp .In) (rInD K) := by
  subst hK
  exact op_inD hu
theorem op_notInD' (hu : X.A.units + 65 < cLine) (hK : X.K = K := by rfl) : OpR X (compareOp .NotIn) (rNotInD K) := by
  subst hK
  exact op_notInD hu
theorem op_eqD' (hu : X.A.units + 64 < cLine) (hK : X.K = K := by rfl) : OpR X (compareOp .Eq) (rEqD K) := by
  subst hK
  exact op_eqD hu
theorem op_neD' (hu : X.A.units + 64 < cLine) (hK : X.K = K := by rfl) : OpR X (compareOp .NotEq) (rNeD K) := by
  subst hK
  exact op_neD hu
theorem ix_list' (hK : X.K = K := by rfl) : IxR X (rIxL K) := by
  subst hK
  exact ix_list
theorem ix_tup' (hK : X.K = K := by rfl) : IxR X (rIxT K) := by
  subst hK
  exact ix_tup
theorem sl_list' (hK : X.K = K := by rfl) : SlR X (rSlL K) := by
  subst hK
  exact sl_list
theorem sl_tup' (hK : X.K = K := by rfl) : SlR X (rSlT K) := by
  subst hK
  exact sl_tup
theorem call_isi' (hK : X.K = K := by rfl) : CallR X (.builtin "isinstance") (rIsi K) := by
  subst hK
  exact call_isi
theorem call_isiT' (hK : X.K = K := by rfl) : CallR X (.builtin "isinstance") (rIsiT K) := by
  subst hK
  exact call_isiT
theorem call_len_seq' (hK : X.K = K := by rfl) : CallR X (.builtin "len") (fun xs H Q => ∃ p ys, xs = [.ref p] ∧ (SqL K H p ys ∨ SqT K H p ys) ∧ Q (.int ys.length) H) := by
  subst hK
  exact call_len_seq
theorem cr_any' (hc : X.calm = true := by rfl) (hK : X.K = K := by rfl) : CallR X (.builtin "any") (rAny K) := by
  subst hK
  exact cr_any hc
theorem cr_all' (hc : X.calm = true := by rfl) (hK : X.K = K := by rfl) : CallR X (.builtin "all") (rAll K) := by
  subst hK
  exact cr_all hc
theorem call_tuple_of' (hK : X.K = K := by rfl) : CallR X (.type "tuple") (fun xs H Q => ∃ p ys, xs = [.ref p] ∧ ((SqL K H p ys ∧ ∀ l, H l = none → Q (.ref l) (upd H l (.tup ys))) ∨ (SqT K H p ys ∧ Q (.ref p) H))) := by
  subst hK
  exact call_tuple_of
theorem op_catA' (hK : X.K = K := by rfl) : OpR X (binaryOp .Add) (rCatA K) := by
  subst hK
  exact op_catA
theorem pi_list' {l tg : Expr} {tl : TE} (hl : PE X l tl) (hK : X.K = K := by rfl) : PI X tg l (iList K tl) := by
  subst hK
  exact pi_list hl
theorem pi_tup' {l tg : Expr} {tl : TE} (hl : PE X l tl) (hK : X.K = K := by rfl) : PI X tg l (iTup K tl) := by
  subst hK
  exact pi_tup hl
theorem pg_tup' {es : List Expr} {k : Nat} {pos : Pos} {t : TGs} (n : Nat) (h : PGs X es t) (hc : X.calm = true := by rfl) (hn : (assignEach es X.env).length = n := by rfl) (hst : (assignEach es X.env).findIdx? (·.1) = none := by rfl) (hK : X.K = K := by rfl) :
    PG X (.Tuple es k pos) (gTup K n t) := by
  subst hK
  exact pg_tup hc h hn hst
end
end K14
/-! A0 -/
set_option Elab.async false
set_option linter.all false
set_option maxRecDepth 100000
set_option maxHeartbeats 4000000
/-! A0: the text by places, its names and scopes; what the walk asks of what the top has made (Tx). -/
namespace K14
open PySem PySem.Spec PyProof.Rows L2
def topS (i : Nat) : Stmt := PySem.Challenge.pw_quietsums_k14_whole_spaces_against_all_s.main.body.getD i (.Pass ⟨0, 0, 0, 0⟩)
abbrev st_is_integer : Stmt := (topS 17)
abbrev N_is_integer : List Str := ["value"]
abbrev ps_is_integer : List Str := ["value"]
theorem sc_is_integer : FnScope N_is_integer ps_is_integer (defScope st_is_integer) := ⟨rfl, rfl, rfl, by decide +kernel, rfl, by decide +kernel, by decide +kernel⟩
abbrev st_is_number : Stmt := (topS 18)
abbrev N_is_number : List Str := ["value", "modulus"]
abbrev ps_is_number : List Str := ["value", "modulus"]
theorem sc_is_number : FnScope N_is_number ps_is_number (defScope st_is_number) := ⟨rfl, rfl, rfl, by decide +kernel, rfl, by decide +kernel, by decide +kernel⟩
abbrev st_is_name : Stmt := (topS 19)
abbrev N_is_name : List Str := ["value", "sign"]
abbrev ps_is_name : List Str := ["value"]
theorem sc_is_name : FnScope N_is_name ps_is_name (defScope st_is_name) := ⟨rfl, rfl, rfl, by decide +kernel, rfl, by decide +kernel, by decide +kernel⟩
abbrev st_is_list : Stmt := (topS 20)
abbrev N_is_list : List Str := ["value"]
abbrev ps_is_list : List Str := ["value"]
theorem sc_is_list : FnScope N_is_list ps_is_list (defScope st_is_list) := ⟨rfl, rfl, rfl, by decide +kernel, rfl, by decide +kernel, by decide +kernel⟩
abbrev st_is_world : Stmt := (topS 21)
abbrev N_is_world : List Str := ["value", "modulus", "name", "number"]
abbrev ps_is_world : List Str := ["value", "modulus"]
theorem sc_is_world : FnScope N_is_world ps_is_world (defScope st_is_world) := ⟨rfl, rfl, rfl, by decide +kernel, rfl, by decide +kernel, by decide +kernel⟩
abbrev st_is_sum : Stmt := (topS 22)
abbrev N_is_sum : List Str := ["value", "modulus"]
abbrev ps_is_sum : List Str := ["value", "modulus"]
theorem sc_is_sum : FnScope N_is_sum ps_is_sum (defScope st_is_sum) := ⟨rfl, rfl, rfl, by decide +kernel, rfl, by decide +kernel, by decide +kernel⟩
abbrev st_want_modulus : Stmt := (topS 23)
abbrev N_want_modulus : List Str := ["value"]
abbrev ps_want_modulus : List Str := ["value"]
theorem sc_want_modulus : FnScope N_want_modulus ps_want_modulus (defScope st_want_modulus) := ⟨rfl, rfl, rfl, by decide +kernel, rfl, by decide +kernel, by decide +kernel⟩
abbrev st_want_sum : Stmt := (topS 24)
abbrev N_want_sum : List Str := ["value", "modulus"]
abbrev ps_want_sum : List Str := ["value", "modulus"]
theorem sc_want_sum : FnScope N_want_sum ps_want_sum (defScope st_want_sum) := ⟨rfl, rfl, rfl, by decide +kernel, rfl, by decide +kernel, by decide +kernel⟩
abbrev st_inverse : Stmt := (topS 25)
abbrev N_inverse : List Str := ["number", "modulus", "other"]
abbrev ps_inverse : List Str := ["number", "modulus"]
theorem sc_inverse : FnScope N_inverse ps_inverse (defScope st_inverse) := ⟨rfl, rfl, rfl, by decide +kernel, rfl, by decide +kernel, by decide +kernel⟩
abbrev st_Sum_init : Stmt := (inClass (topS 27) 0)
abbrev N_Sum_init : List Str := ["self", "modulus", "weights", "constant", "name"]
abbrev ps_Sum_init : List Str := ["self", "modulus", "weights", "constant"]
theorem sc_Sum_init : FnScope N_Sum_init ps_Sum_init (defScope st_Sum_init) := ⟨rfl, rfl, rfl, by decide +kernel, rfl, by decide +kernel, by decide +kernel⟩
abbrev st_Sum_modulus : Stmt := (inClass (topS 27) 3)
abbrev N_Sum_modulus : List Str := ["self"]
abbrev ps_Sum_modulus : List Str := ["self"]
theorem sc_Sum_modulus : FnScope N_Sum_modulus ps_Sum_modulus (defScope st_Sum_modulus) := ⟨rfl, rfl, rfl, by decide +kernel, rfl, by decide +kernel, by decide +kernel⟩
abbrev st_Sum_constant : Stmt := (inClass (topS 27) 4)
abbrev N_Sum_constant : List Str := ["self"]
abbrev ps_Sum_constant : List Str := ["self"]
theorem sc_Sum_constant : FnScope N_Sum_constant ps_Sum_constant (defScope st_Sum_constant) := ⟨rfl, rfl, rfl, by decide +kernel, rfl, by decide +kernel, by decide +kernel⟩
abbrev st_Sum_names : Stmt := (inClass (topS 27) 7)
abbrev N_Sum_names : List Str := ["self"]
abbrev ps_Sum_names : List Str := ["self"]
theorem sc_Sum_names : FnScope N_Sum_names ps_Sum_names (defScope st_Sum_names) := ⟨rfl, rfl, rfl, by decide +kernel, rfl, by decide +kernel, by decide +kernel⟩
abbrev st_Sum_weight : Stmt := (inClass (topS 27) 8)
abbrev N_Sum_weight : List Str := ["self", "name"]
abbrev ps_Sum_weight : List Str := ["self", "name"]
theorem sc_Sum_weight : FnScope N_Sum_weight ps_Sum_weight (defScope st_Sum_weight) := ⟨rfl, rfl, rfl, by decide +kernel, rfl, by decide +kernel, by decide +kernel⟩
abbrev st_Sum_eq : Stmt := (inClass (topS 27) 16)
abbrev N_Sum_eq : List Str := ["self", "other"]
abbrev ps_Sum_eq : List Str := ["self", "other"]
theorem sc_Sum_eq : FnScope N_Sum_eq ps_Sum_eq (defScope st_Sum_eq) := ⟨rfl, rfl, rfl, by decide +kernel, rfl, by decide +kernel, by decide +kernel⟩
abbrev st_want_sums : Stmt := (topS 32)
abbrev N_want_sums : List Str := ["sums", "modulus", "position", "one"]
abbrev ps_want_sums : List Str := ["sums", "modulus"]
theorem sc_want_sums : FnScope N_want_sums ps_want_sums (defScope st_want_sums) := ⟨rfl, rfl, rfl, by decide +kernel, rfl, by decide +kernel, by decide +kernel⟩
abbrev st_want_name_list : Stmt := (topS 33)
abbrev N_want_name_list : List Str := ["names", "position", "name"]
abbrev ps_want_name_list : List Str := ["names"]
theorem sc_want_name_list : FnScope N_want_name_list ps_want_name_list (defScope st_want_name_list) := ⟨rfl, rfl, rfl, by decide +kernel, rfl, by decide +kernel, by decide +kernel⟩
abbrev st_row_of : Stmt := (topS 34)
abbrev N_row_of : List Str := ["target", "row"]
abbrev ps_row_of : List Str := ["target"]
theorem sc_row_of : FnScope N_row_of ps_row_of (defScope st_row_of) := ⟨rfl, rfl, rfl, by decide +kernel, rfl, by decide +kernel, by decide +kernel⟩
abbrev st_sum_of : Stmt := (topS 35)
abbrev N_sum_of : List Str := ["row", "modulus", "weights", "name", "weight"]
abbrev ps_sum_of : List Str := ["row", "modulus"]
theorem sc_sum_of : FnScope N_sum_of ps_sum_of (defScope st_sum_of) := ⟨rfl, rfl, rfl, by decide +kernel, rfl, by decide +kernel, by decide +kernel⟩
abbrev st_without_constant : Stmt := (topS 36)
abbrev N_without_constant : List Str := ["row", "name", "weight"]
abbrev ps_without_constant : List Str := ["row"]
theorem sc_without_constant : FnScope N_without_constant ps_without_constant (defScope st_without_constant) := ⟨rfl, rfl, rfl, by decide +kernel, rfl, by decide +kernel, by decide +kernel⟩
abbrev st_row_less : Stmt := (topS 37)
abbrev N_row_less : List Str := ["row", "other", "factor", "modulus", "found", "name", "weight"]
abbrev ps_row_less : List Str := ["row", "other", "factor", "modulus"]
theorem sc_row_less : FnScope N_row_less ps_row_less (defScope st_row_less) := ⟨rfl, rfl, rfl, by decide +kernel, rfl, by decide +kernel, by decide +kernel⟩
abbrev st_row_reduced : Stmt := (topS 38)
abbrev N_row_reduced : List Str := ["row", "leads", "modulus", "found", "lead", "other"]
abbrev ps_row_reduced : List Str := ["row", "leads", "modulus"]
theorem sc_row_reduced : FnScope N_row_reduced ps_row_reduced (defScope st_row_reduced) := ⟨rfl, rfl, rfl, by decide +kernel, rfl, by decide +kernel, by decide +kernel⟩
abbrev st_reduced_rows : Stmt := (topS 39)
abbrev N_reduced_rows : List Str := ["rows", "modulus", "leads", "row", "left", "names", "lead", "name", "one"]
abbrev ps_reduced_rows : List Str := ["rows", "modulus"]
theorem sc_reduced_rows : FnScope N_reduced_rows ps_reduced_rows (defScope st_reduced_rows) := ⟨rfl, rfl, rfl, by decide +kernel, rfl, by decide +kernel, by decide +kernel⟩
abbrev st_Spanned_init : Stmt := (inClass (topS 42) 0)
abbrev N_Spanned_init : List Str := ["self", "modulus", "rows"]
abbrev ps_Spanned_init : List Str := ["self", "modulus", "rows"]
theorem sc_Spanned_init : FnScope N_Spanned_init ps_Spanned_init (defScope st_Spanned_init) := ⟨rfl, rfl, rfl, by decide +kernel, rfl, by decide +kernel, by decide +kernel⟩
abbrev st_Spanned_rows : Stmt := (inClass (topS 42) 1)
abbrev N_Spanned_rows : List Str := ["self"]
abbrev ps_Spanned_rows : List Str := ["self"]
theorem sc_Spanned_rows : FnScope N_Spanned_rows ps_Spanned_rows (defScope st_Spanned_rows) := ⟨rfl, rfl, rfl, by decide +kernel, rfl, by decide +kernel, by decide +kernel⟩
abbrev st_Spanned_sums_of : Stmt := (inClass (topS 42) 2)
abbrev N_Spanned_sums_of : List Str := ["self", "rows", "row"]
abbrev ps_Spanned_sums_of : List Str := ["self", "rows"]
theorem sc_Spanned_sums_of : FnScope N_Spanned_sums_of ps_Spanned_sums_of (defScope st_Spanned_sums_of) := ⟨rfl, rfl, rfl, by decide +kernel, rfl, by decide +kernel, by decide +kernel⟩
abbrev st_Spanned_names_in_rows : Stmt := (inClass (topS 42) 3)
abbrev N_Spanned_names_in_rows : List Str := ["self", "found", "row"]
abbrev ps_Spanned_names_in_rows : List Str := ["self"]
theorem sc_Spanned_names_in_rows : FnScope N_Spanned_names_in_rows ps_Spanned_names_in_rows (defScope st_Spanned_names_in_rows) := ⟨rfl, rfl, rfl, by decide +kernel, rfl, by decide +kernel, by decide +kernel⟩
abbrev st_Spanned_row_left : Stmt := (inClass (topS 42) 4)
abbrev N_Spanned_row_left : List Str := ["self", "target"]
abbrev ps_Spanned_row_left : List Str := ["self", "target"]
theorem sc_Spanned_row_left : FnScope N_Spanned_row_left ps_Spanned_row_left (defScope st_Spanned_row_left) := ⟨rfl, rfl, rfl, by decide +kernel, rfl, by decide +kernel, by decide +kernel⟩
abbrev st_Space_init : Stmt := (inClass (topS 43) 0)
abbrev N_Space_init : List Str := ["self", "modulus", "sums", "target"]
abbrev ps_Space_init : List Str := ["self", "modulus", "sums"]
abbrev st_Space_everything : Stmt := (inClass (topS 43) 1)
abbrev N_Space_everything : List Str := ["cls", "modulus", "names", "name"]
abbrev ps_Space_everything : List Str := ["cls", "modulus", "names"]
theorem sc_Space_everything : FnScope N_Space_everything ps_Space_everything (defScope st_Space_everything) := ⟨rfl, rfl, rfl, by decide +kernel, rfl, by decide +kernel, by decide +kernel⟩
abbrev st_Space_modulus : Stmt := (inClass (topS 43) 2)
abbrev N_Space_modulus : List Str := ["self"]
abbrev ps_Space_modulus : List Str := ["self"]
theorem sc_Space_modulus : FnScope N_Space_modulus ps_Space_modulus (defScope st_Space_modulus) := ⟨rfl, rfl, rfl, by decide +kernel, rfl, by decide +kernel, by decide +kernel⟩
abbrev st_Space_dimension : Stmt := (inClass (topS 43) 3)
abbrev N_Space_dimension : List Str := ["self"]
abbrev ps_Space_dimension : List Str := ["self"]
theorem sc_Space_dimension : FnScope N_Space_dimension ps_Space_dimension (defScope st_Space_dimension) := ⟨rfl, rfl, rfl, by decide +kernel, rfl, by decide +kernel, by decide +kernel⟩
abbrev st_Space_basis : Stmt := (inClass (topS 43) 4)
abbrev N_Space_basis : List Str := ["self"]
abbrev ps_Space_basis : List Str := ["self"]
theorem sc_Space_basis : FnScope N_Space_basis ps_Space_basis (defScope st_Space_basis) := ⟨rfl, rfl, rfl, by decide +kernel, rfl, by decide +kernel, by decide +kernel⟩
abbrev st_Space_names : Stmt := (inClass (topS 43) 5)
abbrev N_Space_names : List Str := ["self"]
abbrev ps_Space_names : List Str := ["self"]
theorem sc_Space_names : FnScope N_Space_names ps_Space_names (defScope st_Space_names) := ⟨rfl, rfl, rfl, by decide +kernel, rfl, by decide +kernel, by decide +kernel⟩
abbrev st_Space_reduced : Stmt := (inClass (topS 43) 6)
abbrev N_Space_reduced : List Str := ["self", "target"]
abbrev ps_Space_reduced : List Str := ["self", "target"]
theorem sc_Space_reduced : FnScope N_Space_reduced ps_Space_reduced (defScope st_Space_reduced) := ⟨rfl, rfl, rfl, by decide +kernel, rfl, by decide +kernel, by decide +kernel⟩
abbrev st_Space_contains : Stmt := (inClass (topS 43) 12)
abbrev N_Space_contains : List Str := ["self", "value"]
abbrev ps_Space_contains : List Str := ["self", "value"]
theorem sc_Space_contains : FnScope N_Space_contains ps_Space_contains (defScope st_Space_contains) := ⟨rfl, rfl, rfl, by decide +kernel, rfl, by decide +kernel, by decide +kernel⟩
abbrev st_Space_eq : Stmt := (inClass (topS 43) 13)
abbrev N_Space_eq : List Str := ["self", "other"]
abbrev ps_Space_eq : List Str := ["self", "other"]
theorem sc_Space_eq : FnScope N_Space_eq ps_Space_eq (defScope st_Space_eq) := ⟨rfl, rfl, rfl, by decide +kernel, rfl, by decide +kernel, by decide +kernel⟩
abbrev st_law_rng : Stmt := (topS 45)
abbrev N_law_rng : List Str := ["_law_script", "_law_k", "_law_cell"]
abbrev ps_law_rng : List Str := ["_law_script", "_law_k"]
theorem sc_law_rng : FnScope N_law_rng ps_law_rng (defScope st_law_rng) := ⟨rfl, rfl, rfl, by decide +kernel, rfl, by decide +kernel, by decide +kernel⟩
abbrev st_law_draw : Stmt := (topS 46)
abbrev N_law_draw : List Str := ["_law_rng_here", "_law_many", "_law_digit"]
abbrev ps_law_draw : List Str := ["_law_rng_here", "_law_many"]
theorem sc_law_draw : FnScope N_law_draw ps_law_draw (defScope st_law_draw) := ⟨rfl, rfl, rfl, by decide +kernel, rfl, by decide +kernel, by decide +kernel⟩
abbrev st_law_choice : Stmt := (topS 47)
abbrev N_law_choice : List Str := ["_law_rng_here", "_law_some"]
abbrev ps_law_choice : List Str := ["_law_rng_here", "_law_some"]
theorem sc_law_choice : FnScope N_law_choice ps_law_choice (defScope st_law_choice) := ⟨rfl, rfl, rfl, by decide +kernel, rfl, by decide +kernel, by decide +kernel⟩
abbrev st_law_names : Stmt := (topS 48)
abbrev N_law_names : List Str := ["_law_rng_here", "_law_many", "_law_taken", "_law_found", "_law_k", "_law_size", "_law_name", "_law_spare", "_law_turn", "_law_one"]
abbrev ps_law_names : List Str := ["_law_rng_here", "_law_many", "_law_taken"]
theorem sc_law_names : FnScope N_law_names ps_law_names (defScope st_law_names) := ⟨rfl, rfl, rfl, by decide +kernel, rfl, by decide +kernel, by decide +kernel⟩
abbrev st_law_all : Stmt := (topS 49)
abbrev N_law_all : List Str := ["_law_many", "_law_q", "_law_found", "_law_turn"]
abbrev ps_law_all : List Str := ["_law_many", "_law_q"]
theorem sc_law_all : FnScope N_law_all ps_law_all (defScope st_law_all) := ⟨rfl, rfl, rfl, by decide +kernel, rfl, by decide +kernel, by decide +kernel⟩
abbrev st_law_longer : Stmt := (topS 50)
abbrev N_law_longer : List Str := ["_law_rows", "_law_q", "_law_found", "_law_row_here", "_law_number"]
abbrev ps_law_longer : List Str := ["_law_rows", "_law_q"]
theorem sc_law_longer : FnScope N_law_longer ps_law_longer (defScope st_law_longer) := ⟨rfl, rfl, rfl, by decide +kernel, rfl, by decide +kernel, by decide +kernel⟩
abbrev st_law_plus : Stmt := (topS 51)
abbrev N_law_plus : List Str := ["_law_row_here", "_law_other", "_law_by", "_law_q", "_law_one", "_law_two"]
abbrev ps_law_plus : List Str := ["_law_row_here", "_law_other", "_law_by", "_law_q"]
theorem sc_law_plus : FnScope N_law_plus ps_law_plus (defScope st_law_plus) := ⟨rfl, rfl, rfl, by decide +kernel, rfl, by decide +kernel, by decide +kernel⟩
abbrev st_law_span : Stmt := (topS 52)
abbrev N_law_span : List Str := ["_law_rows", "_law_many", "_law_q", "_law_found", "_law_row_here", "_law_longer_here", "_law_one", "_law_by"]
abbrev ps_law_span : List Str := ["_law_rows", "_law_many", "_law_q"]
theorem sc_law_span : FnScope N_law_span ps_law_span (defScope st_law_span) := ⟨rfl, rfl, rfl, by decide +kernel, rfl, by decide +kernel, by decide +kernel⟩
abbrev st_law_sum : Stmt := (topS 53)
abbrev N_law_sum : List Str := ["_law_row_here", "_law_names_here", "_law_q"]
abbrev ps_law_sum : List Str := ["_law_row_here", "_law_names_here", "_law_q"]
theorem sc_law_sum : FnScope N_law_sum ps_law_sum (defScope st_law_sum) := ⟨rfl, rfl, rfl, by decide +kernel, rfl, by decide +kernel, by decide +kernel⟩
abbrev st_law_row : Stmt := (topS 54)
abbrev N_law_row : List Str := ["_law_one", "_law_names_here", "_law_name"]
abbrev ps_law_row : List Str := ["_law_one", "_law_names_here"]
theorem sc_law_row : FnScope N_law_row ps_law_row (defScope st_law_row) := ⟨rfl, rfl, rfl, by decide +kernel, rfl, by decide +kernel, by decide +kernel⟩
abbrev st_law_lead : Stmt := (topS 55)
abbrev N_law_lead : List Str := ["_law_row_here", "_law_at", "_law_weight"]
abbrev ps_law_lead : List Str := ["_law_row_here"]
theorem sc_law_lead : FnScope N_law_lead ps_law_lead (defScope st_law_lead) := ⟨rfl, rfl, rfl, by decide +kernel, rfl, by decide +kernel, by decide +kernel⟩
abbrev st_law_power : Stmt := (topS 56)
abbrev N_law_power : List Str := ["_law_q", "_law_many", "_law_found", "_law_turn"]
abbrev ps_law_power : List Str := ["_law_q", "_law_many"]
theorem sc_law_power : FnScope N_law_power ps_law_power (defScope st_law_power) := ⟨rfl, rfl, rfl, by decide +kernel, rfl, by decide +kernel, by decide +kernel⟩
abbrev st_law_is_basis : Stmt := (topS 57)
abbrev N_law_is_basis : List Str := ["_law_rows", "_law_spanned", "_law_q", "_law_leads", "_law_at", "_law_row_here", "_law_others", "_law_lead_here"]
abbrev ps_law_is_basis : List Str := ["_law_rows", "_law_spanned", "_law_q"]
theorem sc_law_is_basis : FnScope N_law_is_basis ps_law_is_basis (defScope st_law_is_basis) := ⟨rfl, rfl, rfl, by decide +kernel, rfl, by decide +kernel, by decide +kernel⟩
abbrev st_law_space_right : Stmt := (topS 58)
abbrev N_law_space_right : List Str := ["_law_space", "_law_spanned", "_law_every", "_law_names_here", "_law_q", "_law_told", "_law_rows", "_law_made", "_law_leads", "_law_row_here", "_law_left", "_law_rest", "_law_odd", "_law_one", "_law_at", "_law_lead_here", "_law_thing"]
abbrev ps_law_space_right : List Str := ["_law_space", "_law_spanned", "_law_every", "_law_names_here", "_law_q"]
theorem sc_law_space_right : FnScope N_law_space_right ps_law_space_right (defScope st_law_space_right) := ⟨rfl, rfl, rfl, by decide +kernel, rfl, by decide +kernel, by decide +kernel⟩
abbrev st_law_named : Stmt := (topS 59)
abbrev N_law_named : List Str := ["_law_row_here", "_law_names_here", "_law_name", "_law_weight"]
abbrev ps_law_named : List Str := ["_law_row_here", "_law_names_here"]
theorem sc_law_named : FnScope N_law_named ps_law_named (defScope st_law_named) := ⟨rfl, rfl, rfl, by decide +kernel, rfl, by decide +kernel, by decide +kernel⟩
abbrev st_law_other_rows : Stmt := (topS 60)
abbrev N_law_other_rows : List Str := ["_law_rng_here", "_law_rows", "_law_many", "_law_q", "_law_found", "_law_turn", "_law_at", "_law_row_here"]
abbrev ps_law_other_rows : List Str := ["_law_rng_here", "_law_rows", "_law_many", "_law_q"]
theorem sc_law_other_rows : FnScope N_law_other_rows ps_law_other_rows (defScope st_law_other_rows) := ⟨rfl, rfl, rfl, by decide +kernel, rfl, by decide +kernel, by decide +kernel⟩
abbrev st_law_right : Stmt := (topS 61)
abbrev N_law_right : List Str := ["_law_rng_here", "_law_q", "_law_many", "_law_names_here", "_law_rows", "_law_others", "_law_handed", "_law_space", "_law_other", "_law_every", "_law_spanned", "_law_others_spanned", "_law_turn", "_law_is_same", "_law_whole", "_law_at", "_law_row_here", "_law_name"]
abbrev ps_law_right : List Str := ["_law_rng_here"]
theorem sc_law_right : FnScope N_law_right ps_law_right (defScope st_law_right) := ⟨rfl, rfl, rfl, by decide +kernel, rfl, by decide +kernel, by decide +kernel⟩
abbrev st_law : Stmt := (topS 62)
abbrev N_law : List Str := ["_law_script", "_law_k", "_law_rng_here", "_law_turn"]
abbrev ps_law : List Str := ["_law_script"]
theorem sc_law : FnScope N_law ps_law (defScope st_law) := ⟨rfl, rfl, rfl, by decide +kernel, rfl, by decide +kernel, by decide +kernel⟩
/-- a def of the module -/
structure Fd (K : PySem.W.Frag) (mg : Str → Option Value) (x : Str) (st : Stmt) : Prop where
  d : ∃ f fd, FunD K x x (defArgs st) (defBody st) (defScope st) [] [] f fd ∧ mg x = some (.ref f)
/-- a method, reached through the class at C -/
structure Md (K : PySem.W.Frag) (C : Addr) (m qual : Str) (st : Stmt) (f : Addr) : Prop where
  d : ∃ fd, FunD K m qual (defArgs st) (defBody st) (defScope st) [] [] f fd
  me : Meth K C m f
/-- a property's getter, reached through the class at C -/
structure Pd (K : PySem.W.Frag) (C : Addr) (m qual : Str) (st : Stmt) (p g : Addr) : Prop where
  d : ∃ fd, FunD K m qual (defArgs st) (defBody st) (defScope st) [] [] g fd
  pr : PropOf K C m p g
/-- an own class: its instances are read, stored, asked for by isinstance -/
structure Cd (K : PySem.W.Frag) (mg : Str → Option Value) (x : Str) (C : Addr) : Prop where
  g : mg x = some (.ref C)
  cl : Cls K C
  kc : PySem.W.keepIn K (.ref C) = true
  ic : PySem.W.findIn K (.ref C) "__class__" = some (some (.builtin "object.__class__"))
  mo : PySem.W.mroIn K C (.type "object") = some true
section
variable {P : Program} {w : World} {K : PySem.W.Frag} {mg : Str → Option Value} {base : Heap}
/-- what h of Fd.gn says of how a def's parameters are bound -/
abbrev BindsAll (x qual : Str) (st : Stmt) (ps : List Str) : Prop := ∀ (kV doc pm : Value) (an : Option Addr) (cdv ct : Value) (us : List Value), us.length = ps.length → bindArgs (PySem.W.fnOf x qual (defArgs st) (defBody st) (defScope st) .none kV doc pm an cdv ct) ⟨us, []⟩ = pure (ps.zip us)
/-- the body keeps the promise -/
abbrev BodyOk (P : Program) (w : World) (K : PySem.W.Frag) (mg : Str → Option Value) (base : Heap) (k : Nat) (qual : Str) (st : Stmt) (N : List Str) (sp : Sp) : Prop := ∀ (f : Addr) (cdv : Value) (A : Around) (outer : List Env) (s : Shared) (H : Hp) (vs : List V) (Q : VK) (E : XK), Room k (A.deeper (envOfC qual (defScope st) s.heap.objs.size f cdv)) → sp vs H Q E →
      ∃ t, PSs (cxOf CX0 P w K mg base N qual (defScope st) f cdv A outer s H E).nox (defBody st) t ∧ t { nx := fun _ H' => Q .non H', rt := Q } (start N vs) H
theorem fnok_of {x qual : Str} {st : Stmt} {dvs : List V} {N ps : List Str} {k : Nat} {sp : Sp} {f : Addr} {fd : FuncData} (F : FunD K x qual (defArgs st) (defBody st) (defScope st) dvs [] f fd) (S : FnScope N ps (defScope st)) (len : ∀ vs H Q E, sp vs H Q E → vs.length = ps.length)
    (hbody : BodyOk P w K mg base k qual st N sp) : FnOk P w K mg base CX0 (k + 1) f fd ps sp := by
  refine F.ok S len fun cdv A outer s H vs Q E hr hsp => ?_
  obtain ⟨t, h, q⟩ := hbody f cdv A outer s H vs Q E hr hsp
  exact ⟨t, h.nox, q⟩
theorem gcx {k : Nat} {v : Value} {sp sp' : Sp} (G : GC P w K mg base k v sp) (e : sp' = sp) : GC P w K mg base k v sp' := e ▸ G
theorem Fd.gn {x : Str} {st : Stmt} {N ps : List Str} {k : Nat} {sp : Sp} (F : Fd K mg x st) (S : FnScope N ps (defScope st)) (len : ∀ vs H Q E, sp vs H Q E → vs.length = ps.length) (hb : BindsAll x x st ps)
    (hbody : BodyOk P w K mg base k x st N sp) : GN P w K mg base (k + 1) x sp := by
  obtain ⟨f, fd, F, hm⟩ := F.d
  refine ⟨⟨_, hm, F.kp, ?_⟩⟩
  have G := gc_fn (fnok_of F S len hbody) (F.bindsN hb) .nil
  exact gcx G (by funext vs H Q E; rw [List.append_nil])
theorem Md.gc {C f : Addr} {m qual : Str} {st : Stmt} {N ps : List Str} {k : Nat} {sp : Sp} (F : Md K C m qual st f) (S : FnScope N ps (defScope st)) (len : ∀ vs H Q E, sp vs H Q E → vs.length = ps.length) (hb : BindsAll m qual st ps)
    (hbody : BodyOk P w K mg base k qual st N sp) : GC P w K mg base (k + 1) (.ref f) sp := by
  obtain ⟨fd, F⟩ := F.d
  have G := gc_fn (fnok_of F S len hbody) (F.bindsN hb) .nil
  exact gcx G (by funext vs H Q E; rw [List.append_nil])
end
theorem bo_len : bootBuiltins "len" = some (.builtin "len") := by decide +kernel
theorem bo_isinstance : bootBuiltins "isinstance" = some (.builtin "isinstance") := by decide +kernel
theorem bo_all : bootBuiltins "all" = some (.builtin "all") := by decide +kernel
theorem bo_any : bootBuiltins "any" = some (.builtin "any") := by decide +kernel
theorem bo_sorted : bootBuiltins "sorted" = some (.builtin "sorted") := by decide +kernel
theorem bo_min : bootBuiltins "min" = some (.builtin "min") := by decide +kernel
theorem bo_max : bootBuiltins "max" = some (.builtin "max") := by decide +kernel
theorem bo_abs : bootBuiltins "abs" = some (.builtin "abs") := by decide +kernel
theorem bo_divmod : bootBuiltins "divmod" = some (.builtin "divmod") := by decide +kernel
theorem bo_list : bootBuiltins "list" = some (.type "list") := by decide +kernel
theorem bo_tuple : bootBuiltins "tuple" = some (.type "tuple") := by decide +kernel
theorem bo_dict : bootBuiltins "dict" = some (.type "dict") := by decide +kernel
theorem bo_set : bootBuiltins "set" = some (.type "set") := by decide +kernel
theorem bo_int : bootBuiltins "int" = some (.type "int") := by decide +kernel
theorem bo_str : bootBuiltins "str" = some (.type "str") := by decide +kernel
theorem bo_bool : bootBuiltins "bool" = some (.type "bool") := by decide +kernel
end K14
/-! HK1 -/
set_option Elab.async false
set_option linter.all false
set_option maxRecDepth 100000
set_option maxHeartbeats 0
/-! HK1: what the head's Hook looks at. -/
namespace K14
open PySem PySem.Spec PyProof.Rows L2 He HK
abbrev FB := PySem.W.Frag → Bool
def recA (K : PySem.W.Frag) (p : Addr) (t : String) : Addr := match PySem.W.recIn K p t with
  | some (.ref g :: _) => g
  | _ => 0
def recB (K : PySem.W.Frag) (p : Addr) (t : String) : Bool := match PySem.W.recIn K p t with
  | some (.ref _ :: _) => true
  | _ => false
def supA (K : PySem.W.Frag) (x m : Str) : Addr := match PySem.W.clsIn K (ga K x) with
  | some cd => (match PySem.W.alongIn K m ((cd.mro.dropWhile (· != .ref (ga K x))).drop 1) with
    | some (some (.ref a)) => a
    | _ => 0)
  | none => 0
def celA (K : PySem.W.Frag) (f : Addr) : Addr := match K.lookup f with
  | some ⟨_, _, .func fd, _⟩ => (match fd.closure with
    | (_, c) :: _ => c
    | [] => 0)
  | _ => 0
def codA (K : PySem.W.Frag) (f : Addr) : Addr := match K.lookup f with
  | some ⟨_, _, .func fd, _⟩ => (match fd.code with
    | .ref c => c
    | _ => 0)
  | _ => 0
def bFa (f : Fa) : FB := fun K => f.ok K
def dvModuli : List Dv := [.int 2, .int 3, .int 5, .int 7, .int 11, .int 13]
def bIc (x : Str) : FB := fun K => eqO (PySem.W.findIn K (.ref (ga K x)) "__class__") (some (some (.builtin "object.__class__")))
def bMo (x : Str) : FB := fun K => decide (PySem.W.mroIn K (ga K x) (.type "object") = some true)
def bKit (t : PySem.W.Frag → Value) (c : Str) (b : Bool) : FB := fun K => decide (PySem.W.kitOne K (t K) (.ref (ga K c)) = some b)
def bKTS : FB := fun K => (["NoneType", "int", "bool", "str", "list"] : List String).all fun n => decide (PySem.W.kitOne K (.type n) (.ref (ga K "Sum")) = some false)
def bGG : FB := fun K => eqO (PySem.W.specialIn K (.builtin "object.__class__") "__get__") (some (some (.builtin "getset_descriptor.__get__")))
def bGT : FB := fun K => decide (PySem.W.takesIn K (.builtin "object.__class__") = some true)
def bProp (x m : Str) : FB := fun K => eqO (PySem.W.findIn K (.ref (ga K x)) m) (some (some (.ref (ma K (ga K x) m)))) && (eqO (PySem.W.specialIn K (.ref (ma K (ga K x) m)) "__get__") (some (some (.builtin "property.__get__"))) && (decide (PySem.W.takesIn K (.ref (ma K (ga K x) m)) = some true) && recB K (ma K (ga K x) m) "property"))
def bNe (x : Str) : FB := fun K => eqO (PySem.W.findIn K (.ref (ga K x)) "__ne__") (some (some (.builtin "object.__ne__")))
def cmeB (x m : Str) : FB := fun K => PySem.W.readsIn K (ga K x) (.type "type") && (eqO (PySem.W.specialIn K (.ref (ga K x)) "__getattribute__") (some (some (.builtin "type.__getattribute__"))) && ((match PySem.W.findCls K (.ref (ga K x)) (.type "type") m with
  | some (.get a b c d) => decide (a = .builtin "classmethod.__get__") && (decide (b = .ref (ma K (ga K x) m)) && (decide (c = .none) && decide (d = .ref (ga K x))))
  | _ => false) && (recB K (ma K (ga K x) m) "classmethod" && PySem.W.fnIn K (recA K (ma K (ga K x) m) "classmethod"))))
def supB (file x m : Str) : FB := fun K => (match K.lookup (codA K (ma K (ga K x) m)) with
  | some ⟨_, _, .fields vs, _⟩ => (match (vs[2]? : Option Value) with
    | some (Value.str fl _) => file == fl
    | _ => false)
  | _ => false) && ((match K.lookup (celA K (ma K (ga K x) m)) with
  | some ⟨_, _, .cell (some (.ref a)), _⟩ => decide (a = ga K x)
  | _ => false) && ((match PySem.W.clsIn K (ga K x) with
  | some cd => eqO (PySem.W.alongIn K m ((cd.mro.dropWhile (· != .ref (ga K x))).drop 1)) (some (some (.ref (supA K x m))))
  | none => false) && (decide (PySem.W.mroIn K (ga K x) (.ref (ga K x)) = some true) && (decide ((K.lookup (supA K x m)).map (·.cls) = some (.type "function")) && (PySem.W.fnIn K (supA K x m) && eqO (PySem.W.nsIn K cStatics "thirdparty.any") (some none))))))
abbrev hdFile : Str := PySem.Challenge.pw_quietsums_k14_whole_spaces_against_all_s.main.file
def hFb0 : List FB := [
  bFa (.free "len"),
  bFa (.free "isinstance"),
  bFa (.free "all"),
  bFa (.free "any"),
  bFa (.free "sorted"),
  bFa (.free "min"),
  bFa (.free "max"),
  bFa (.free "abs"),
  bFa (.free "divmod"),
  bFa (.free "list"),
  bFa (.free "tuple"),
  bFa (.free "dict"),
  bFa (.free "set"),
  bFa (.free "int"),
  bFa (.free "str"),
  bFa (.free "bool"),
  bFa (.free "range"),
  bFa (.free "enumerate"),
  bFa (.free "zip"),
  bFa (.free "super")]
def hFb1 : List FB := [
  bFa (.glo "MODULI"),
  fun K => tupB K "MODULI" dvModuli,
  bFa (.str "LETTERS" "abcdefghijklmnopqrstuvwxyz"),
  bFa (.str "NAME_SIGNS" "abcdefghijklmnopqrstuvwxyz0123456789"),
  bFa (.str "CONSTANT" ""),
  bFa (.int "LONGEST_NAME" 12),
  bFa (.glo "is_integer"),
  bFa (.glo "is_number"),
  bFa (.glo "is_name"),
  bFa (.glo "is_list"),
  bFa (.glo "is_world"),
  bFa (.glo "is_sum"),
  bFa (.glo "want_modulus"),
  bFa (.glo "want_sum"),
  bFa (.glo "inverse"),
  bFa (.glo "want_sums"),
  bFa (.glo "want_name_list"),
  bFa (.glo "row_of"),
  bFa (.glo "sum_of"),
  bFa (.glo "without_constant")]
def hFb2 : List FB := [
  bFa (.glo "row_less"),
  bFa (.glo "row_reduced"),
  bFa (.glo "reduced_rows"),
  bFa (.glo "_law_rng"),
  bFa (.glo "_law_draw"),
  bFa (.glo "_law_choice"),
  bFa (.glo "_law_names"),
  bFa (.glo "_law_all"),
  bFa (.glo "_law_longer"),
  bFa (.glo "_law_plus"),
  bFa (.glo "_law_span"),
  bFa (.glo "_law_sum"),
  bFa (.glo "_law_row"),
  bFa (.glo "_law_lead"),
  bFa (.glo "_law_power"),
  bFa (.glo "_law_is_basis"),
  bFa (.glo "_law_space_right"),
  bFa (.glo "_law_named"),
  bFa (.glo "_law_other_rows"),
  bFa (.glo "_law_right")]
def hFb3 : List FB := [
  bFa (.glo "law"),
  bFa (.glo "Sum"),
  bFa (.cls "Sum"),
  bFa (.keep "Sum"),
  bIc "Sum",
  bMo "Sum",
  bFa (.glo "Space"),
  bFa (.cls "Space"),
  bFa (.keep "Space"),
  bIc "Space",
  bMo "Space",
  bFa (.noat "Sum" "own_modulus"),
  bFa (.noat "Sum" "own_weights"),
  bFa (.noat "Sum" "own_constant"),
  bFa (.noat "Space" "own_modulus"),
  bFa (.noat "Space" "own_rows"),
  bKit (fun K => .ref (ga K "Sum")) "Sum" true,
  bKit (fun K => .ref (ga K "Space")) "Sum" false,
  bKit (fun K => .ref (ga K "Space")) "Space" true,
  bKTS]
def hFb4 : List FB := [
  bGG,
  bGT,
  bProp "Sum" "modulus",
  bProp "Sum" "constant",
  bFa (.meth "Sum" "names"),
  bFa (.meth "Sum" "weight"),
  bFa (.meth "Sum" "__eq__"),
  bFa (.meth "Space" "rows"),
  bFa (.meth "Space" "sums_of"),
  bFa (.meth "Space" "names_in_rows"),
  bFa (.meth "Space" "row_left"),
  bProp "Space" "modulus",
  bProp "Space" "dimension",
  bFa (.meth "Space" "basis"),
  bFa (.meth "Space" "names"),
  bFa (.meth "Space" "reduced"),
  bFa (.meth "Space" "__contains__"),
  bFa (.meth "Space" "__eq__"),
  bFa (.mkr "Sum"),
  bFa (.mkr "Space")]
def hFb5 : List FB := [
  supB hdFile "Space" "__init__",
  cmeB "Space" "everything",
  bNe "Space"]
def hFb : List FB := hFb0 ++ (hFb1 ++ (hFb2 ++ (hFb3 ++ (hFb4 ++ (hFb5)))))
def hFn0 : List DefE := [
  ⟨fun K => ga K "is_integer", "is_integer", "is_integer", defArgs st_is_integer, defBody st_is_integer, defScope st_is_integer, [], []⟩,
  ⟨fun K => ga K "is_number", "is_number", "is_number", defArgs st_is_number, defBody st_is_number, defScope st_is_number, [], []⟩,
  ⟨fun K => ga K "is_name", "is_name", "is_name", defArgs st_is_name, defBody st_is_name, defScope st_is_name, [], []⟩,
  ⟨fun K => ga K "is_list", "is_list", "is_list", defArgs st_is_list, defBody st_is_list, defScope st_is_list, [], []⟩,
  ⟨fun K => ga K "is_world", "is_world", "is_world", defArgs st_is_world, defBody st_is_world, defScope st_is_world, [], []⟩,
  ⟨fun K => ga K "is_sum", "is_sum", "is_sum", defArgs st_is_sum, defBody st_is_sum, defScope st_is_sum, [], []⟩,
  ⟨fun K => ga K "want_modulus", "want_modulus", "want_modulus", defArgs st_want_modulus, defBody st_want_modulus, defScope st_want_modulus, [], []⟩,
  ⟨fun K => ga K "want_sum", "want_sum", "want_sum", defArgs st_want_sum, defBody st_want_sum, defScope st_want_sum, [], []⟩,
  ⟨fun K => ga K "inverse", "inverse", "inverse", defArgs st_inverse, defBody st_inverse, defScope st_inverse, [], []⟩,
  ⟨fun K => ga K "want_sums", "want_sums", "want_sums", defArgs st_want_sums, defBody st_want_sums, defScope st_want_sums, [], []⟩,
  ⟨fun K => ga K "want_name_list", "want_name_list", "want_name_list", defArgs st_want_name_list, defBody st_want_name_list, defScope st_want_name_list, [], []⟩,
  ⟨fun K => ga K "row_of", "row_of", "row_of", defArgs st_row_of, defBody st_row_of, defScope st_row_of, [], []⟩,
  ⟨fun K => ga K "sum_of", "sum_of", "sum_of", defArgs st_sum_of, defBody st_sum_of, defScope st_sum_of, [], []⟩,
  ⟨fun K => ga K "without_constant", "without_constant", "without_constant", defArgs st_without_constant, defBody st_without_constant, defScope st_without_constant, [], []⟩,
  ⟨fun K => ga K "row_less", "row_less", "row_less", defArgs st_row_less, defBody st_row_less, defScope st_row_less, [], []⟩,
  ⟨fun K => ga K "row_reduced", "row_reduced", "row_reduced", defArgs st_row_reduced, defBody st_row_reduced, defScope st_row_reduced, [], []⟩,
  ⟨fun K => ga K "reduced_rows", "reduced_rows", "reduced_rows", defArgs st_reduced_rows, defBody st_reduced_rows, defScope st_reduced_rows, [], []⟩,
  ⟨fun K => ga K "_law_rng", "_law_rng", "_law_rng", defArgs st_law_rng, defBody st_law_rng, defScope st_law_rng, [], []⟩,
  ⟨fun K => ga K "_law_draw", "_law_draw", "_law_draw", defArgs st_law_draw, defBody st_law_draw, defScope st_law_draw, [], []⟩,
  ⟨fun K => ga K "_law_choice", "_law_choice", "_law_choice", defArgs st_law_choice, defBody st_law_choice, defScope st_law_choice, [], []⟩]
def hFn1 : List DefE := [
  ⟨fun K => ga K "_law_names", "_law_names", "_law_names", defArgs st_law_names, defBody st_law_names, defScope st_law_names, [], []⟩,
  ⟨fun K => ga K "_law_all", "_law_all", "_law_all", defArgs st_law_all, defBody st_law_all, defScope st_law_all, [], []⟩,
  ⟨fun K => ga K "_law_longer", "_law_longer", "_law_longer", defArgs st_law_longer, defBody st_law_longer, defScope st_law_longer, [], []⟩,
  ⟨fun K => ga K "_law_plus", "_law_plus", "_law_plus", defArgs st_law_plus, defBody st_law_plus, defScope st_law_plus, [], []⟩,
  ⟨fun K => ga K "_law_span", "_law_span", "_law_span", defArgs st_law_span, defBody st_law_span, defScope st_law_span, [], []⟩,
  ⟨fun K => ga K "_law_sum", "_law_sum", "_law_sum", defArgs st_law_sum, defBody st_law_sum, defScope st_law_sum, [], []⟩,
  ⟨fun K => ga K "_law_row", "_law_row", "_law_row", defArgs st_law_row, defBody st_law_row, defScope st_law_row, [], []⟩,
  ⟨fun K => ga K "_law_lead", "_law_lead", "_law_lead", defArgs st_law_lead, defBody st_law_lead, defScope st_law_lead, [], []⟩,
  ⟨fun K => ga K "_law_power", "_law_power", "_law_power", defArgs st_law_power, defBody st_law_power, defScope st_law_power, [], []⟩,
  ⟨fun K => ga K "_law_is_basis", "_law_is_basis", "_law_is_basis", defArgs st_law_is_basis, defBody st_law_is_basis, defScope st_law_is_basis, [], []⟩,
  ⟨fun K => ga K "_law_space_right", "_law_space_right", "_law_space_right", defArgs st_law_space_right, defBody st_law_space_right, defScope st_law_space_right, [], []⟩,
  ⟨fun K => ga K "_law_named", "_law_named", "_law_named", defArgs st_law_named, defBody st_law_named, defScope st_law_named, [], []⟩,
  ⟨fun K => ga K "_law_other_rows", "_law_other_rows", "_law_other_rows", defArgs st_law_other_rows, defBody st_law_other_rows, defScope st_law_other_rows, [], []⟩,
  ⟨fun K => ga K "_law_right", "_law_right", "_law_right", defArgs st_law_right, defBody st_law_right, defScope st_law_right, [], []⟩,
  ⟨fun K => ga K "law", "law", "law", defArgs st_law, defBody st_law, defScope st_law, [], []⟩,
  ⟨fun K => recA K (ma K (ga K "Sum") "modulus") "property", "modulus", "Sum.modulus", defArgs st_Sum_modulus, defBody st_Sum_modulus, defScope st_Sum_modulus, [], []⟩,
  ⟨fun K => recA K (ma K (ga K "Sum") "constant") "property", "constant", "Sum.constant", defArgs st_Sum_constant, defBody st_Sum_constant, defScope st_Sum_constant, [], []⟩,
  ⟨fun K => ma K (ga K "Sum") "names", "names", "Sum.names", defArgs st_Sum_names, defBody st_Sum_names, defScope st_Sum_names, [], []⟩,
  ⟨fun K => ma K (ga K "Sum") "weight", "weight", "Sum.weight", defArgs st_Sum_weight, defBody st_Sum_weight, defScope st_Sum_weight, [], []⟩,
  ⟨fun K => ma K (ga K "Sum") "__eq__", "__eq__", "Sum.__eq__", defArgs st_Sum_eq, defBody st_Sum_eq, defScope st_Sum_eq, [], []⟩]
def hFn2 : List DefE := [
  ⟨fun K => ma K (ga K "Space") "rows", "rows", "Spanned.rows", defArgs st_Spanned_rows, defBody st_Spanned_rows, defScope st_Spanned_rows, [], []⟩,
  ⟨fun K => ma K (ga K "Space") "sums_of", "sums_of", "Spanned.sums_of", defArgs st_Spanned_sums_of, defBody st_Spanned_sums_of, defScope st_Spanned_sums_of, [], []⟩,
  ⟨fun K => ma K (ga K "Space") "names_in_rows", "names_in_rows", "Spanned.names_in_rows", defArgs st_Spanned_names_in_rows, defBody st_Spanned_names_in_rows, defScope st_Spanned_names_in_rows, [], []⟩,
  ⟨fun K => ma K (ga K "Space") "row_left", "row_left", "Spanned.row_left", defArgs st_Spanned_row_left, defBody st_Spanned_row_left, defScope st_Spanned_row_left, [], []⟩,
  ⟨fun K => recA K (ma K (ga K "Space") "modulus") "property", "modulus", "Space.modulus", defArgs st_Space_modulus, defBody st_Space_modulus, defScope st_Space_modulus, [], []⟩,
  ⟨fun K => recA K (ma K (ga K "Space") "dimension") "property", "dimension", "Space.dimension", defArgs st_Space_dimension, defBody st_Space_dimension, defScope st_Space_dimension, [], []⟩,
  ⟨fun K => ma K (ga K "Space") "basis", "basis", "Space.basis", defArgs st_Space_basis, defBody st_Space_basis, defScope st_Space_basis, [], []⟩,
  ⟨fun K => ma K (ga K "Space") "names", "names", "Space.names", defArgs st_Space_names, defBody st_Space_names, defScope st_Space_names, [], []⟩,
  ⟨fun K => ma K (ga K "Space") "reduced", "reduced", "Space.reduced", defArgs st_Space_reduced, defBody st_Space_reduced, defScope st_Space_reduced, [], []⟩,
  ⟨fun K => ma K (ga K "Space") "__contains__", "__contains__", "Space.__contains__", defArgs st_Space_contains, defBody st_Space_contains, defScope st_Space_contains, [], []⟩,
  ⟨fun K => ma K (ga K "Space") "__eq__", "__eq__", "Space.__eq__", defArgs st_Space_eq, defBody st_Space_eq, defScope st_Space_eq, [], []⟩,
  ⟨fun K => ma K (ga K "Sum") "__init__", "__init__", "Sum.__init__", defArgs st_Sum_init, defBody st_Sum_init, defScope st_Sum_init, [.int 0], []⟩,
  ⟨fun K => ma K (ga K "Space") "__init__", "__init__", "Space.__init__", defArgs st_Space_init, defBody st_Space_init, defScope st_Space_init, [], ["__class__"]⟩,
  ⟨fun K => supA K "Space" "__init__", "__init__", "Spanned.__init__", defArgs st_Spanned_init, defBody st_Spanned_init, defScope st_Spanned_init, [], []⟩,
  ⟨fun K => recA K (ma K (ga K "Space") "everything") "classmethod", "everything", "Space.everything", defArgs st_Space_everything, defBody st_Space_everything, defScope st_Space_everything, [], []⟩]
def hFn : List DefE := hFn0 ++ (hFn1 ++ (hFn2))
def looseA : List PySem.Str := ["_wall", "QuietsumsError", "InvalidModulus", "InvalidNumber", "InvalidWeights", "InvalidSum", "InvalidSums", "InvalidNames", "InvalidWorld", "OtherModulus", "MissingNumber", "MODULI", "LETTERS", "NAME_SIGNS", "LONGEST_NAME", "is_integer", "is_number", "is_name", "is_list", "is_world", "is_sum", "want_modulus", "want_sum", "inverse", "term_text", "Sum", "CONSTANT", "FIRST", "SECOND", "want_sums"]
def looseB : List PySem.Str := ["want_name_list", "row_of", "sum_of", "without_constant", "row_less", "row_reduced", "reduced_rows", "unmarked", "rows_without", "Spanned", "Space", "_law_rng", "_law_draw", "_law_choice", "_law_names", "_law_all", "_law_longer", "_law_plus", "_law_span", "_law_sum", "_law_row", "_law_lead", "_law_power", "_law_is_basis", "_law_space_right", "_law_named", "_law_other_rows", "_law_right"]
def hdLoose : List PySem.Str := looseA ++ looseB
abbrev hdR : PySem.W.OpenRow := PySem.W.OpenLaw.row PySem.Challenge.rw_quietsums_k14_whole_spaces_against_all_s
abbrev hdK : PySem.W.Hook := hookE 6 hFb hFn
def hdOb (s : PySem.W.SharedT) : AlE := HK.obsG 6 hFb hFn (HandSHeadRun.getT s)
theorem hdOb_eq (s : PySem.W.SharedT) : hdOb s = hdK.obs s.abs := HK.obsG_eq (HandSHeadRun.getT_eq s)
theorem hd_run (w : World) : HandSHeadRun.RunEq hdR (PySem.W.view hdR.prog [62]) hdK hdOb 20000 hdLoose w := by
  intro os
  kernel_rfl
end K14
/-! A1 -/
set_option Elab.async false
set_option linter.all false
set_option maxRecDepth 100000
set_option maxHeartbeats 4000000
/-! A1: what the walk asks of what the top has made. -/
namespace K14
open PySem PySem.Spec PyProof.Rows L2
structure Tx (K : PySem.W.Frag) (mg : Str → Option Value) (CS CP AM : Addr) : Prop where
  n_len : mg "len" = none
  n_isinstance : mg "isinstance" = none
  n_all : mg "all" = none
  n_any : mg "any" = none
  n_sorted : mg "sorted" = none
  n_min : mg "min" = none
  n_max : mg "max" = none
  n_abs : mg "abs" = none
  n_divmod : mg "divmod" = none
  n_list : mg "list" = none
  n_tuple : mg "tuple" = none
  n_dict : mg "dict" = none
  n_set : mg "set" = none
  n_int : mg "int" = none
  n_str : mg "str" = none
  n_bool : mg "bool" = none
  n_range : mg "range" = none
  n_enumerate : mg "enumerate" = none
  n_zip : mg "zip" = none
  g_MODULI : mg "MODULI" = some (.ref AM)
  t_MODULI : ∀ H : Hp, SqT K H AM [.int 2, .int 3, .int 5, .int 7, .int 11, .int 13]
  g_LETTERS : ∃ t, mg "LETTERS" = some (.str "abcdefghijklmnopqrstuvwxyz" t)
  g_NAME_SIGNS : ∃ t, mg "NAME_SIGNS" = some (.str "abcdefghijklmnopqrstuvwxyz0123456789" t)
  g_CONSTANT : ∃ t, mg "CONSTANT" = some (.str "" t)
  g_LONGEST_NAME : ∃ t, mg "LONGEST_NAME" = some (.int 12 t)
  f_is_integer : Fd K mg "is_integer" st_is_integer
  f_is_number : Fd K mg "is_number" st_is_number
  f_is_name : Fd K mg "is_name" st_is_name
  f_is_list : Fd K mg "is_list" st_is_list
  f_is_world : Fd K mg "is_world" st_is_world
  f_is_sum : Fd K mg "is_sum" st_is_sum
  f_want_modulus : Fd K mg "want_modulus" st_want_modulus
  f_want_sum : Fd K mg "want_sum" st_want_sum
  f_inverse : Fd K mg "inverse" st_inverse
  f_want_sums : Fd K mg "want_sums" st_want_sums
  f_want_name_list : Fd K mg "want_name_list" st_want_name_list
  f_row_of : Fd K mg "row_of" st_row_of
  f_sum_of : Fd K mg "sum_of" st_sum_of
  f_without_constant : Fd K mg "without_constant" st_without_constant
  f_row_less : Fd K mg "row_less" st_row_less
  f_row_reduced : Fd K mg "row_reduced" st_row_reduced
  f_reduced_rows : Fd K mg "reduced_rows" st_reduced_rows
  f_law_rng : Fd K mg "_law_rng" st_law_rng
  f_law_draw : Fd K mg "_law_draw" st_law_draw
  f_law_choice : Fd K mg "_law_choice" st_law_choice
  f_law_names : Fd K mg "_law_names" st_law_names
  f_law_all : Fd K mg "_law_all" st_law_all
  f_law_longer : Fd K mg "_law_longer" st_law_longer
  f_law_plus : Fd K mg "_law_plus" st_law_plus
  f_law_span : Fd K mg "_law_span" st_law_span
  f_law_sum : Fd K mg "_law_sum" st_law_sum
  f_law_row : Fd K mg "_law_row" st_law_row
  f_law_lead : Fd K mg "_law_lead" st_law_lead
  f_law_power : Fd K mg "_law_power" st_law_power
  f_law_is_basis : Fd K mg "_law_is_basis" st_law_is_basis
  f_law_space_right : Fd K mg "_law_space_right" st_law_space_right
  f_law_named : Fd K mg "_law_named" st_law_named
  f_law_other_rows : Fd K mg "_law_other_rows" st_law_other_rows
  f_law_right : Fd K mg "_law_right" st_law_right
  f_law : Fd K mg "law" st_law
  c_Sum : Cd K mg "Sum" CS
  c_Space : Cd K mg "Space" CP
  a_Sum_own_modulus : NoAttr K CS "own_modulus"
  a_Sum_own_weights : NoAttr K CS "own_weights"
  a_Sum_own_constant : NoAttr K CS "own_constant"
  a_Space_own_modulus : NoAttr K CP "own_modulus"
  a_Space_own_rows : NoAttr K CP "own_rows"
  k_SS : PySem.W.kitOne K (.ref CS) (.ref CS) = some true
  k_PS : PySem.W.kitOne K (.ref CP) (.ref CS) = some false
  k_PP : PySem.W.kitOne K (.ref CP) (.ref CP) = some true
  k_TS : ∀ n ∈ (["NoneType", "int", "bool", "str", "list"] : List String), PySem.W.kitOne K (.type n) (.ref CS) = some false
  gg : PySem.W.specialIn K (.builtin "object.__class__") "__get__" = some (some (.builtin "getset_descriptor.__get__"))
  gt : PySem.W.takesIn K (.builtin "object.__class__") = some true
  p_Sum_modulus : ∃ p g, Pd K CS "modulus" "Sum.modulus" st_Sum_modulus p g
  p_Sum_constant : ∃ p g, Pd K CS "constant" "Sum.constant" st_Sum_constant p g
  m_Sum_names : ∃ f, Md K CS "names" "Sum.names" st_Sum_names f
  m_Sum_weight : ∃ f, Md K CS "weight" "Sum.weight" st_Sum_weight f
  m_Sum_eq : ∃ f, Md K CS "__eq__" "Sum.__eq__" st_Sum_eq f
  m_Spanned_rows : ∃ f, Md K CP "rows" "Spanned.rows" st_Spanned_rows f
  m_Spanned_sums_of : ∃ f, Md K CP "sums_of" "Spanned.sums_of" st_Spanned_sums_of f
  m_Spanned_names_in_rows : ∃ f, Md K CP "names_in_rows" "Spanned.names_in_rows" st_Spanned_names_in_rows f
  m_Spanned_row_left : ∃ f, Md K CP "row_left" "Spanned.row_left" st_Spanned_row_left f
  p_Space_modulus : ∃ p g, Pd K CP "modulus" "Space.modulus" st_Space_modulus p g
  p_Space_dimension : ∃ p g, Pd K CP "dimension" "Space.dimension" st_Space_dimension p g
  m_Space_basis : ∃ f, Md K CP "basis" "Space.basis" st_Space_basis f
  m_Space_names : ∃ f, Md K CP "names" "Space.names" st_Space_names f
  m_Space_reduced : ∃ f, Md K CP "reduced" "Space.reduced" st_Space_reduced f
  m_Space_contains : ∃ f, Md K CP "__contains__" "Space.__contains__" st_Space_contains f
  m_Space_eq : ∃ f, Md K CP "__eq__" "Space.__eq__" st_Space_eq f
  i_Sum : ∃ f fd, FunD K "__init__" "Sum.__init__" (defArgs st_Sum_init) (defBody st_Sum_init) (defScope st_Sum_init) [.int 0] [] f fd ∧ Mk K CS f
/-- the isinstance facts of an own class -/
theorem tyOf_S {K : PySem.W.Frag} {mg : Str → Option Value} {CS CP AM : Addr} (T : Tx K mg CS CP AM) {H : Hp} {a dx : Addr} {fs : List (Str × V)} (e : H a = some (.ins CS dx fs)) : TyX K H (.ref a) (.ref CS) := .base (.ins e T.c_Sum.cl T.c_Sum.ic T.gg T.gt T.c_Sum.mo)
theorem tyOf_P {K : PySem.W.Frag} {mg : Str → Option Value} {CS CP AM : Addr} (T : Tx K mg CS CP AM) {H : Hp} {a dx : Addr} {fs : List (Str × V)} (e : H a = some (.ins CP dx fs)) : TyX K H (.ref a) (.ref CP) := .base (.ins e T.c_Space.cl T.c_Space.ic T.gg T.gt T.c_Space.mo)
/-! ### methods, properties by promise -/
structure GM (P : Program) (w : World) (K : PySem.W.Frag) (mg : Str → Option Value) (base : Heap) (k : Nat) (C : Addr) (m : Str) (sp : Sp) : Prop where
  ex : ∃ f, Meth K C m f ∧ GC P w K mg base k (.ref f) sp
structure GP (P : Program) (w : World) (K : PySem.W.Frag) (mg : Str → Option Value) (base : Heap) (k : Nat) (C : Addr) (m : Str) (sp : Sp) : Prop where
  ex : ∃ p g fd ps, PropOf K C m p g ∧ FnOk P w K mg base CX0 k g fd ps sp ∧ Binds K fd ps []
section
variable {P : Program} {w : World} {K : PySem.W.Frag} {mg : Str → Option Value} {base : Heap}
theorem Md.gm {C : Addr} {m qual : Str} {st : Stmt} {N ps : List Str} {k : Nat} {sp : Sp} (F : ∃ f, Md K C m qual st f) (S : FnScope N ps (defScope st)) (len : ∀ vs H Q E, sp vs H Q E → vs.length = ps.length) (hb : BindsAll m qual st ps)
    (hbody : BodyOk P w K mg base k qual st N sp) : GM P w K mg base (k + 1) C m sp := by
  obtain ⟨f, F⟩ := F
  exact ⟨⟨f, F.me, F.gc S len hb hbody⟩⟩
theorem Pd.gp {C : Addr} {m qual : Str} {st : Stmt} {N ps : List Str} {k : Nat} {sp : Sp} (F : ∃ p g, Pd K C m qual st p g) (S : FnScope N ps (defScope st)) (len : ∀ vs H Q E, sp vs H Q E → vs.length = ps.length) (hb : BindsAll m qual st ps)
    (hbody : BodyOk P w K mg base k qual st N sp) : GP P w K mg base (k + 1) C m sp := by
  obtain ⟨p, g, F⟩ := F
  obtain ⟨fd, FD⟩ := F.d
  exact ⟨⟨p, g, fd, ps, F.pr, fnok_of FD S len hbody, FD.bindsN hb⟩⟩
end
def tP (C : Addr) (sp : Sp) (ta : TE) : TE := fun σ H Q => ta σ H fun x H1 => ∃ a dx fs, x = .ref a ∧ H1 a = some (.ins C dx fs) ∧ sp [.ref a] H1 Q E0
section
variable {X : Cx} {j k : Nat} {m : Str} {C : Addr} {sp : Sp} {apos pos : Pos} {o e : Expr} {es : List Expr} {ta : TE} {t : TA} {pl : Sem Bool}
theorem pe_gm (he : PE X o ta) (c : Cls X.K C) (G : GM X.prog X.w X.K X.mg X.base j C m sp) (hr : Room k X.A) (ha : PA X (e :: es) t) (hl : j ≤ k := by decide)
    (hst : starEach (e :: es) X.env = (false, eval e X.env) :: starEach es X.env := by rfl) (hpl : (backTo pos (starEach es X.env)).any (·.1) = false := by rfl)
    (ht : eval (.Call (.Attribute o m apos) (e :: es) [] pos) X.env = (do
      let ov ← eval o X.env
      standAt apos.atName
      let (f, first) ← holding [ov] (getMethod ov m pl)
      callWith pos f first (backTo pos (starEach (e :: es) X.env)) (backToKw pos (keywordEach [] X.env))) := by rfl) :
    PE X (.Call (.Attribute o m apos) (e :: es) [] pos) (tM C m sp ta t) := by
  obtain ⟨f, hm, G⟩ := G.ex
  exact pe_m he c hm G hr ha hl hst hpl ht
theorem pe_gm0 (he : PE X o ta) (c : Cls X.K C) (G : GM X.prog X.w X.K X.mg X.base j C m sp) (hr : Room k X.A) (hl : j ≤ k := by decide)
    (ht : eval (.Call (.Attribute o m apos) [] [] pos) X.env = (do
      let ov ← eval o X.env
      standAt apos.atName
      let (f, first) ← holding [ov] (getMethod ov m pl)
      callWith pos f first (backTo pos (starEach [] X.env)) (backToKw pos (keywordEach [] X.env))) := by rfl) :
    PE X (.Call (.Attribute o m apos) [] [] pos) (tM C m sp ta tNil) := by
  obtain ⟨f, hm, G⟩ := G.ex
  exact K14.pe_m0 he c hm G hr hl ht
theorem pe_gp (he : PE X o ta) (c : Cls X.K C) (G : GP X.prog X.w X.K X.mg X.base j C m sp) (hr : Room k X.A) (hl : j + 1 ≤ k := by decide) (hab : attributeBase o m X.env (eval o X.env) = eval o X.env := by rfl) :
    PE X (.Attribute o m pos) (tP C sp ta) := by
  obtain ⟨p, g, fd, ps, hp, F, hb⟩ := G.ex
  refine ⟨fun pins s σ H Q I h => ?_⟩
  exact (pe_prop (sp := sp) (E := E0) he c hp F (hr.mono hl) hb .nil pass0 hab).run pins s σ H Q I h
end
end K14
/-! A2 -/
set_option Elab.async false
set_option linter.all false
set_option maxRecDepth 100000
set_option maxHeartbeats 4000000
/-! A2: loops and comprehensions over any iterator of n turns; heaps that grow; locks; tables from names to numbers. -/
namespace K14
open PySem PySem.Spec PyProof.Rows L2
/-! ### n turns of any iterator -/
theorem for_by {J : It} {g : TG} {tb : TS} {D : Ends} {σ : L2.St} {H : Hp} (n : Nat) (Pv : Nat → L2.St → Hp → Prop) (h0 : Pv 0 σ H)
    (hs : ∀ i σ H, i < n → Pv i σ H → J.go i H ∧ ∀ x H', J.yld i H x H' → g x σ H' fun σ2 H2 => tb { D with nx := Pv (i + 1), ct := Pv (i + 1), bk := D.nx } σ2 H2) (hd : ∀ σ H, Pv n σ H → J.stop n H ∧ D.nx σ H) :
    ∃ W : Nat → Nat → L2.St → Hp → Prop, (∃ m, W 0 m σ H) ∧ ∀ i m σ H, W i m σ H →
      (J.stop i H ∧ D.nx σ H) ∨ (J.go i H ∧ ∃ N : L2.St → Hp → Prop, (∀ σ' H', N σ' H' → ∃ m', m' < m ∧ W (i + 1) m' σ' H') ∧ ∀ x H', J.yld i H x H' → g x σ H' fun σ2 H2 => tb { D with nx := N, ct := N, bk := D.nx } σ2 H2) := by
  refine ⟨fun i m σ H => m = n - i ∧ i ≤ n ∧ Pv i σ H, ⟨n, by simp, Nat.zero_le _, h0⟩, ?_⟩
  rintro i m σ H ⟨rfl, hi, p⟩
  by_cases hlt : i < n
  · obtain ⟨a, b⟩ := hs i σ H hlt p
    exact .inr ⟨a, Pv (i + 1), fun σ' H' p' => ⟨n - (i + 1), by omega, rfl, hlt, p'⟩, b⟩
  · have e : i = n := by omega
    subst e
    exact .inl (hd σ H p)
theorem lc_by {J : It} {g : TG} {tt : TT} {te : TE} {vs : List Nat} {σ : L2.St} {H1 : Hp} {D : Addr} {Qd : Hp → Prop} (n : Nat) (Pv : Nat → Hp → Prop) (h0 : Pv 0 (upd H1 D (.lst [])))
    (hs : ∀ i H, i < n → Pv i H → J.go i H ∧ ∀ x H', J.yld i H x H' → g x (wipe σ vs) H' fun σ2 H2 => wipe σ2 vs = wipe σ vs ∧ tt σ2 H2 fun b H3 =>
      if b = true then te σ2 H3 fun y H4 => ∃ acc, H4 D = some (.lst acc) ∧ acc.length < sizeLine ∧ Pv (i + 1) (upd H4 D (.lst (acc ++ [y]))) else Pv (i + 1) H3) (hd : ∀ H, Pv n H → J.stop n H ∧ Qd H) :
    ∃ W : Nat → Nat → Hp → Prop, (∃ m, W 0 m (upd H1 D (.lst []))) ∧ ∀ i m H, W i m H →
      (J.stop i H ∧ Qd H) ∨ (J.go i H ∧ ∃ Nx : Hp → Prop, (∀ H', Nx H' → ∃ m', m' < m ∧ W (i + 1) m' H') ∧ ∀ x H', J.yld i H x H' → g x (wipe σ vs) H' fun σ2 H2 => wipe σ2 vs = wipe σ vs ∧ tt σ2 H2 fun b H3 =>
        if b = true then te σ2 H3 fun y H4 => ∃ acc, H4 D = some (.lst acc) ∧ acc.length < sizeLine ∧ Nx (upd H4 D (.lst (acc ++ [y]))) else Nx H3) := by
  refine ⟨fun i m H => m = n - i ∧ i ≤ n ∧ Pv i H, ⟨n, by simp, Nat.zero_le _, h0⟩, ?_⟩
  rintro i m H ⟨rfl, hi, p⟩
  by_cases hlt : i < n
  · obtain ⟨a, b⟩ := hs i H hlt p
    refine .inr ⟨a, Pv (i + 1), fun H' p' => ⟨n - (i + 1), by omega, rfl, hlt, p'⟩, b⟩
  · have e : i = n := by omega
    subst e
    exact .inl (hd H p)
theorem dc_by {J : It} {g : TG} {tt : TT} {tk tv : TE} {vs : List Nat} {σ : L2.St} {H1 : Hp} {D : Addr} {Qd : Hp → Prop} (n : Nat) (Pv : Nat → Hp → Prop) (h0 : Pv 0 (upd H1 D (.dK [])))
    (hs : ∀ i H, i < n → Pv i H → J.go i H ∧ ∀ x H', J.yld i H x H' → g x (wipe σ vs) H' fun σ2 H2 => wipe σ2 vs = wipe σ vs ∧ tt σ2 H2 fun b H3 =>
      if b = true then tk σ2 H3 fun y H4 => tv σ2 H4 fun z H5 => ∃ kvs k, y = kV k ∧ H5 D = some (.dK kvs) ∧ kvs.length < sizeLine ∧ Pv (i + 1) (upd H5 D (.dK (putK kvs k z))) else Pv (i + 1) H3) (hd : ∀ H, Pv n H → J.stop n H ∧ Qd H) :
    ∃ W : Nat → Nat → Hp → Prop, (∃ m, W 0 m (upd H1 D (.dK []))) ∧ ∀ i m H, W i m H →
      (J.stop i H ∧ Qd H) ∨ (J.go i H ∧ ∃ Nx : Hp → Prop, (∀ H', Nx H' → ∃ m', m' < m ∧ W (i + 1) m' H') ∧ ∀ x H', J.yld i H x H' → g x (wipe σ vs) H' fun σ2 H2 => wipe σ2 vs = wipe σ vs ∧ tt σ2 H2 fun b H3 =>
        if b = true then tk σ2 H3 fun y H4 => tv σ2 H4 fun z H5 => ∃ kvs k, y = kV k ∧ H5 D = some (.dK kvs) ∧ kvs.length < sizeLine ∧ Nx (upd H5 D (.dK (putK kvs k z))) else Nx H3) := by
  refine ⟨fun i m H => m = n - i ∧ i ≤ n ∧ Pv i H, ⟨n, by simp, Nat.zero_le _, h0⟩, ?_⟩
  rintro i m H ⟨rfl, hi, p⟩
  by_cases hlt : i < n
  · obtain ⟨a, b⟩ := hs i H hlt p
    refine .inr ⟨a, Pv (i + 1), fun H' p' => ⟨n - (i + 1), by omega, rfl, hlt, p'⟩, b⟩
  · have e : i = n := by omega
    subst e
    exact .inl (hd H p)
/-! ### heaps that grow -/
theorem same_new {H : Hp} {p : Addr} {o : HO} (h : H p = none) : Same H (upd H p o) := fun b x e => by
  rw [upd_ne (ne_of_none e h)]
  exact e
theorem same_add {H H' : Hp} {p : Addr} {o : HO} (s : Same H H') (h : H' p = none) : Same H (upd H' p o) := s.trans (same_new h)
/-- an object that H does not know may change -/
theorem same_mut {H H' : Hp} {p : Addr} {o : HO} (s : Same H H') (h : H p = none) : Same H (upd H' p o) := fun a u ha => by
  rw [upd_ne (ne_of_none ha h)]
  exact s a u ha
theorem same_sqt {K : PySem.W.Frag} {H H' : Hp} {a : Addr} {xs : List V} (e : Same H H') (h : SqT K H a xs) : SqT K H' a xs := by
  rcases h with (h | ⟨o, h⟩) | h
  · exact .inl (.inl (e _ _ h))
  · exact .inl (.inr ⟨o, e _ _ h⟩)
  · exact .inr h
/-- all but r -/
def SameB (r : Addr) (H H' : Hp) : Prop := ∀ b o, b ≠ r → H b = some o → H' b = some o
theorem same_b {r : Addr} {H H' : Hp} (e : Same H H') : SameB r H H' := fun b o _ h => e b o h
theorem SameB.trans {r : Addr} {H H1 H2 : Hp} (a : SameB r H H1) (b : SameB r H1 H2) : SameB r H H2 := fun c o n h => b c o n (a c o n h)
theorem SameB.refl {r : Addr} (H : Hp) : SameB r H H := fun _ _ _ h => h
/-- a lock laid and taken off -/
theorem lock_in {H : Hp} {d : Addr} {u w : HO} {b : Addr} {o : HO} (h : H b = some o) (hb : b ≠ d) : upd H d w b = some o := by
  rw [upd_ne hb]
  exact h
theorem same_unlock {H H' : Hp} {d : Addr} {u w : HO} (hd : H d = some u) (s : Same (upd H d w) H') : Same H (upd H' d u) := fun b o e => by
  by_cases hb : b = d
  · subst hb
    rw [upd_same, ← hd]
    exact e
  · rw [upd_ne hb]
    exact s b o (by rw [upd_ne hb]; exact e)
theorem SameB.unlock {r : Addr} {H H' : Hp} {d : Addr} {u w : HO} (hd : H d = some u) (s : SameB r (upd H d w) H') : SameB r H (upd H' d u) := fun b o n e => by
  by_cases hb : b = d
  · subst hb
    rw [upd_same, ← hd]
    exact e
  · rw [upd_ne hb]
    exact s b o n (by rw [upd_ne hb]; exact e)
theorem free_lock {H : Hp} {d b : Addr} {w : HO} (h : upd H d w b = none) : H b = none ∧ b ≠ d := by
  by_cases hb : b = d
  · subst hb
    rw [upd_same] at h
    cases h
  · rw [upd_ne hb] at h
    exact ⟨h, hb⟩
/-! ### tables from names to numbers -/
structure Tb (W : List Str) (kvs : List (Key × V)) (g : Str → Int) : Prop where
  nd : (kvs.map (·.1)).Nodup
  ks : ∀ p ∈ kvs, ∃ x, p = ((Sum.inr x : Key), V.int (g x)) ∧ x ∈ W
  out : ∀ x, valV kvs (Sum.inr x : Key) = none → g x = 0
theorem Tb.nil {W : List Str} : Tb W [] (fun _ => 0) := ⟨List.nodup_nil, fun p h => (nomatch h), fun _ _ => rfl⟩
theorem valV_mem {κ : Type} [DecidableEq κ] {kvs : List (κ × V)} {k : κ} {v : V} (h : valV kvs k = some v) : (k, v) ∈ kvs := by
  unfold valV at h
  cases e : kvs.find? fun kv => decide (kv.1 = k) with
  | none =>
    rw [e] at h
    cases h
  | some p =>
    rw [e] at h
    have h1 := List.find?_some e
    have h2 := List.mem_of_find?_eq_some e
    have e1 : p.1 = k := of_decide_eq_true h1
    have e2 : p.2 = v := Option.some.inj h
    subst e1 e2
    exact h2
theorem valV_of_mem {κ : Type} [DecidableEq κ] : ∀ {kvs : List (κ × V)} {k : κ} {v : V}, (kvs.map (·.1)).Nodup → (k, v) ∈ kvs → valV kvs k = some v
  | [], _, _, _, h => nomatch h
  | p :: r, k, v, nd, h => by
    have nd : (p.1 :: r.map (·.1)).Nodup := nd
    obtain ⟨h1, h2⟩ := List.nodup_cons.mp nd
    rcases List.mem_cons.mp h with e | h
    · subst e
      exact valV_pos rfl
    · rw [valV_neg fun e => h1 (List.mem_map.mpr ⟨(k, v), h, e.symm⟩)]
      exact valV_of_mem h2 h
theorem Tb.get {W : List Str} {kvs : List (Key × V)} {g : Str → Int} (t : Tb W kvs g) (x : Str) : valV kvs (Sum.inr x : Key) = some (.int (g x)) ∨ (valV kvs (Sum.inr x : Key) = none ∧ g x = 0) := by
  cases e : valV kvs (Sum.inr x : Key) with
  | none => exact .inr ⟨rfl, t.out x e⟩
  | some v =>
    obtain ⟨y, hp, _⟩ := t.ks _ (valV_mem e)
    have h1 : (Sum.inr x : Key) = Sum.inr y := congrArg Prod.fst hp
    have h2 : v = V.int (g y) := congrArg Prod.snd hp
    have e3 : x = y := Sum.inr.inj h1
    subst e3
    exact .inl (by rw [h2])
theorem len_sub {α : Type} [DecidableEq α] : ∀ {l m : List α}, l.Nodup → (∀ x ∈ l, x ∈ m) → l.length ≤ m.length
  | [], m, _, _ => Nat.zero_le _
  | a :: l, m, nd, h => by
    obtain ⟨h1, h2⟩ := List.nodup_cons.mp nd
    have ha : a ∈ m := h a List.mem_cons_self
    have q := len_sub (l := l) (m := m.erase a) h2 fun x hx => (List.mem_erase_of_ne fun e : x = a => h1 (by rw [← e]; exact hx)).mpr (h x (List.mem_cons_of_mem _ hx))
    rw [List.length_erase_of_mem ha] at q
    have : 0 < m.length := List.length_pos_of_mem ha
    rw [List.length_cons]
    omega
theorem Tb.len {W : List Str} {kvs : List (Key × V)} {g : Str → Int} (t : Tb W kvs g) : kvs.length ≤ W.length := by
  have q := len_sub (l := kvs.map (·.1)) (m := W.map Sum.inr) t.nd fun k hk => by
    obtain ⟨p, hp, e⟩ := List.mem_map.mp hk
    obtain ⟨x, ep, hx⟩ := t.ks p hp
    subst ep
    subst e
    exact List.mem_map.mpr ⟨x, hx, rfl⟩
  rw [List.length_map, List.length_map] at q
  exact q
theorem putK_keys {κ : Type} [DecidableEq κ] {kvs : List (κ × V)} {k : κ} {v : V} (h : ∃ w, valV kvs k = some w) : (putK kvs k v).map (·.1) = kvs.map (·.1) := by
  obtain ⟨w, h⟩ := h
  unfold putK
  rw [valV_any, h, if_pos (by rfl), List.map_map]
  refine List.map_congr_left fun p _ => ?_
  show (if p.1 = k then (p.1, v) else p).1 = p.1
  by_cases e : p.1 = k
  · rw [if_pos e]
  · rw [if_neg e]
theorem putK_nodup {κ : Type} [DecidableEq κ] {kvs : List (κ × V)} {k : κ} {v : V} (hn : (kvs.map (·.1)).Nodup) : ((putK kvs k v).map (·.1)).Nodup := by
  cases e : valV kvs k with
  | none => exact nd_putK v hn e
  | some w =>
    rw [putK_keys ⟨w, e⟩]
    exact hn
theorem Tb.put {W : List Str} {kvs : List (Key × V)} {g : Str → Int} (t : Tb W kvs g) {x : Str} (hx : x ∈ W) (v : Int) : Tb W (putK kvs (Sum.inr x : Key) (.int v)) (fun y => if y = x then v else g y) where
  nd := putK_nodup t.nd
  ks := fun p hp => by
    have q : valV (putK kvs (Sum.inr x : Key) (.int v)) p.1 = some p.2 := valV_of_mem (putK_nodup t.nd) hp
    rw [valV_put] at q
    by_cases e : p.1 = (Sum.inr x : Key)
    · rw [if_pos e] at q
      refine ⟨x, ?_, hx⟩
      rw [if_pos rfl, Option.some.inj q, ← e]
    · rw [if_neg e] at q
      obtain ⟨y, ep, hy⟩ := t.ks _ (valV_mem q)
      have h1 : p.1 = (Sum.inr y : Key) := congrArg Prod.fst ep
      have h2 : p.2 = V.int (g y) := congrArg Prod.snd ep
      refine ⟨y, ?_, hy⟩
      rw [if_neg (fun z : y = x => e (by rw [h1, z])), ← h1, ← h2]
  out := fun y h => by
    rw [valV_put] at h
    by_cases e : (Sum.inr y : Key) = Sum.inr x
    · rw [if_pos e] at h
      cases h
    · rw [if_neg e] at h
      show (if y = x then v else g y) = 0
      rw [if_neg fun z : y = x => e (by rw [z])]
      exact t.out y h
theorem Tb.eq {W : List Str} {kvs : List (Key × V)} {g g' : Str → Int} (t : Tb W kvs g) (e : ∀ x, g x = g' x) : Tb W kvs g' := by
  have : g = g' := funext e
  exact this ▸ t
/-- a row: what stands in it is not 0 -/
structure Rw (W : List Str) (q : Int) (kvs : List (Key × V)) (f : Str → Int) : Prop extends Tb W kvs f where
  nz : ∀ x, valV kvs (Sum.inr x : Key) ≠ none → f x ≠ 0
  rg : ∀ x, 0 ≤ f x ∧ f x < q
theorem Rw.at_ {W : List Str} {q : Int} {kvs : List (Key × V)} {f : Str → Int} (t : Rw W q kvs f) (x : Str) : valV kvs (Sum.inr x : Key) = if f x = 0 then none else some (.int (f x)) := by
  rcases t.toTb.get x with e | ⟨e, e0⟩
  · rw [if_neg (t.nz x (by rw [e]; exact fun z => nomatch z)), e]
  · rw [if_pos e0, e]
theorem Rw.eq {W : List Str} {q : Int} {kvs : List (Key × V)} {g g' : Str → Int} (t : Rw W q kvs g) (e : ∀ x, g x = g' x) : Rw W q kvs g' := by
  have : g = g' := funext e
  exact this ▸ t
/-- those of a table that pass a test -/
theorem valV_filter {kvs : List (Key × V)} {p : Key × V → Bool} {k : Key} : (kvs.map (·.1)).Nodup → valV (kvs.filter p) k = (valV kvs k).bind fun v => if p (k, v) = true then some v else none := by
  induction kvs with
  | nil => intro _; rfl
  | cons a r ih =>
    intro nd
    have nd : (a.1 :: r.map (·.1)).Nodup := nd
    obtain ⟨h1, h2⟩ := List.nodup_cons.mp nd
    have ih := ih h2
    by_cases ek : a.1 = k
    · rw [valV_pos ek]
      have hr : valV r k = none := by
        cases e : valV r k with
        | none => rfl
        | some v => exact absurd (List.mem_map.mpr ⟨_, valV_mem e, ek.symm⟩) h1
      rw [hr] at ih
      have ea : a = (k, a.2) := by rw [← ek]
      show _ = if p (k, a.2) = true then some a.2 else none
      rw [← ea, List.filter_cons]
      by_cases hp : p a = true
      · rw [if_pos hp, if_pos hp, valV_pos ek]
      · rw [if_neg hp, if_neg hp]
        exact ih
    · rw [valV_neg ek, ← ih, List.filter_cons]
      by_cases hp : p a = true
      · rw [if_pos hp, valV_neg ek]
      · rw [if_neg hp]
theorem nodup_filter_keys {kvs : List (Key × V)} {p : Key × V → Bool} (nd : (kvs.map (·.1)).Nodup) : ((kvs.filter p).map (·.1)).Nodup :=
  List.Nodup.sublist (List.Sublist.map _ List.filter_sublist) nd
end K14
/-! D1b -/
set_option Elab.async false
set_option linter.all false
set_option maxRecDepth 100000
set_option maxHeartbeats 4000000
namespace K14
open PySem PySem.Spec PyProof.Rows L2
/-! ### names -/
def isLet (c : Nat) : Prop := 97 ≤ c ∧ c ≤ 122
def isSgn (c : Nat) : Prop := (97 ≤ c ∧ c ≤ 122) ∨ (48 ≤ c ∧ c ≤ 57)
structure NameOk (z : Str) : Prop where
  ex : ∃ c r, z.cps.toList = c :: r ∧ isLet c ∧ r.length ≤ 11 ∧ ∀ d ∈ r, isSgn d
theorem let_mem {c : Nat} (h : isLet c) : c ∈ ("abcdefghijklmnopqrstuvwxyz" : Str).cps.toList := by
  have q : ∀ c < 123, 97 ≤ c → c ∈ ("abcdefghijklmnopqrstuvwxyz" : Str).cps.toList := by decide +kernel
  exact q c (by have := h.2; omega) h.1
theorem sgn_mem {c : Nat} (h : isSgn c) : c ∈ ("abcdefghijklmnopqrstuvwxyz0123456789" : Str).cps.toList := by
  have q : ∀ c < 123, 97 ≤ c → c ∈ ("abcdefghijklmnopqrstuvwxyz0123456789" : Str).cps.toList := by decide +kernel
  have q2 : ∀ c < 58, 48 ≤ c → c ∈ ("abcdefghijklmnopqrstuvwxyz0123456789" : Str).cps.toList := by decide +kernel
  rcases h with h | h
  · exact q c (by omega) h.1
  · exact q2 c (by omega) h.1
theorem NameOk.len {z : Str} (n : NameOk z) : 1 ≤ z.length ∧ z.length ≤ 12 := by
  obtain ⟨c, r, e, _, hr, _⟩ := n.ex
  have q : z.length = z.cps.toList.length := by simp [Str.length]
  rw [q, e, List.length_cons]
  omega
theorem NameOk.sgn {z : Str} (n : NameOk z) : ∀ d ∈ z.cps.toList, isSgn d := by
  obtain ⟨c, r, e, hc, hr, hs⟩ := n.ex
  rw [e]
  intro d hd
  rcases List.mem_cons.mp hd with q | q
  · rw [q]
    exact .inl hc
  · exact hs d q
theorem NameOk.ne {z : Str} (n : NameOk z) : z ≠ "" := by
  intro e
  have := n.len
  rw [e] at this
  exact absurd this.1 (by decide)
section
variable {P : Program} {w : World} {K : PySem.W.Frag} {mg : Str → Option Value} {base : Heap} {CS CP AM : Addr}
def spIsName : Sp := fun vs H Q _ => ∃ z : Str, vs = [.str z] ∧ NameOk z ∧ ∀ H', Same H H' → Q (.bl true) H'
theorem ok_is_name (T : Tx K mg CS CP AM) : GN P w K mg base 1 "is_name" spIsName := by
  refine Fd.gn T.f_is_name sc_is_name (fun vs H Q E h => ?_) (fun _ _ _ _ _ _ us hl => match us, hl with | [_], _ => rfl) (fun f cdv A outer s H vs Q E hr h => ?_)
  · obtain ⟨z, rfl, _⟩ := h
    rfl
  · obtain ⟨z, rfl, hn, q⟩ := h
    obtain ⟨hl1, hl2⟩ := hn.len
    obtain ⟨c, r, ez, hc, _, _⟩ := hn.ex
    refine ⟨_, (pss_cons (ps_if (PW.pt (pw_or (pt_not (pt_val (pe_callB call_isi (by rfl) T.n_isinstance bo_isinstance (pa_cons (pv 0) (pa_cons (pe_ty bo_str (by rfl) T.n_str) pa_nil))))) (pw_or (pt_not (pt_chain op_le op_le pe_int (pe_callB call_len_str (by rfl) T.n_len bo_len (pa_cons (pv 0) pa_nil)) (pe_gint (by rfl) T.g_LONGEST_NAME))) (pw_or1 (pt_cmpR op_notIn_sign (pe_ix ix_str (pv 0) pe_int (fun _ _ => rfl)) (pe_gstr (by rfl) T.g_LETTERS) rfl))))) (pss_one (ps_ret pe_bl)) pss_nil)
      (pss_one (ps_ret (pe_callB (cr_all rfl) (by rfl) T.n_all bo_all (pa_cons (pe_lc (own := [("sign", 1)]) rfl sc_is_name.nd (pi_str (pv 0)) (blkOk_by (N := N_is_name) (sc := defScope st_is_name) (by decide +kernel)) (fun _ _ _ _ _ => (pg_name (i := 1) sc_is_name.nd rfl (Or.inl rfl) (Or.inr rfl))) (fun _ _ _ _ _ => pts_nil) (fun _ _ _ _ _ => (pe_cmpR op_in_sign (pv 1) (pe_gstr (by rfl) T.g_NAME_SIGNS) rfl))) pa_nil))))), ?_⟩
    refine ⟨_, rfl, _, _, _, _, true, rfl, .ty _, .base (.str z), kit_ty (by decide +kernel), true, rfl, iteF ?_⟩
    refine ⟨_, rfl, z, rfl, Nat.le_trans hl2 (by decide), 1, _, rfl, rfl, _, rfl, ?_⟩
    rw [decide_eq_true (show (1 : Int) ≤ (z.length : Int) by omega)]
    refine iteT ?_
    refine ⟨_, 12, rfl, rfl, true, ?_, iteF ?_⟩
    · show V.bl (decide ((z.length : Int) ≤ 12)) = _
      rw [decide_eq_true (show (z.length : Int) ≤ 12 by omega)]
    refine ⟨_, rfl, z, 0, c, rfl, rfl, Nat.le_trans hl2 (by decide), atI_nat (j := 0) (by rw [ez]; rfl), c, _, rfl, rfl, false, ?_, iteF ?_⟩
    · show V.bl (!decide (c ∈ _)) = _
      rw [decide_eq_true (let_mem hc)]
      rfl
    refine ⟨_, rfl, z, rfl, fun D hD => ?_⟩
    refine lc_by z.cps.size (fun i H' => Same H H' ∧ H' D = some (.lst (List.replicate i (V.bl true)))) ⟨same_new hD, upd_same⟩ ?_ ?_
    · rintro i H1 hi ⟨s1, e1⟩
      refine ⟨hi, ?_⟩
      rintro x H2 ⟨rfl, d, hd, rfl⟩
      have hm : d ∈ z.cps.toList := List.mem_of_getElem? (i := i) (by simpa using hd)
      refine ⟨rfl, ?_⟩
      refine ⟨_, rfl, d, _, rfl, rfl, _, e1, by rw [List.length_replicate]; exact Nat.lt_of_lt_of_le hi (Nat.le_trans (show z.cps.size ≤ 12 from hl2) (by decide)), same_mut s1 hD, ?_⟩
      rw [upd_same, decide_eq_true (sgn_mem (hn.sgn d hm)), List.replicate_succ']
    · rintro H1 ⟨s1, e1⟩
      refine ⟨Nat.le_refl _, D, List.replicate z.cps.size true, rfl, ?_, ?_⟩
      · refine SqL.of ?_
        rw [e1, List.map_replicate]
      · have : (List.replicate z.cps.size true).all id = true := by simp
        rw [this]
        exact q H1 s1
end
end K14
/-! D1 -/
set_option Elab.async false
set_option linter.all false
set_option maxRecDepth 100000
set_option maxHeartbeats 4000000
/-! D1: numbers, names, lists. -/
namespace K14
open PySem PySem.Spec PyProof.Rows L2
section
variable {P : Program} {w : World} {K : PySem.W.Frag} {mg : Str → Option Value} {base : Heap} {CS CP AM : Addr}
def spIsInteger : Sp := fun vs H Q _ => ∃ i : Int, vs = [.int i] ∧ Q (.bl true) H
theorem ok_is_integer (T : Tx K mg CS CP AM) : GN P w K mg base 1 "is_integer" spIsInteger := by
  refine Fd.gn T.f_is_integer sc_is_integer (fun vs H Q E h => ?_) (fun _ _ _ _ _ _ us hl => match us, hl with | [_], _ => rfl) (fun f cdv A outer s H vs Q E hr h => ?_)
  · obtain ⟨i, rfl, _⟩ := h
    rfl
  · obtain ⟨i, rfl, q⟩ := h
    refine ⟨_, (pss_one (ps_ret (pe_and (pe_callB call_isi (by rfl) T.n_isinstance bo_isinstance (pa_cons (pv 0) (pa_cons (pe_ty bo_int (by rfl) T.n_int) pa_nil))) (pe_one (pe_not (pe_callB call_isi (by rfl) T.n_isinstance bo_isinstance (pa_cons (pv 0) (pa_cons (pe_ty bo_bool (by rfl) T.n_bool) pa_nil)))))))), ?_⟩
    refine ⟨_, rfl, _, _, _, _, true, rfl, .ty _, .base (.int i), kit_ty (by decide +kernel), true, rfl, iteT ?_⟩
    exact ⟨_, rfl, _, _, _, _, false, rfl, .ty _, .base (.int i), kit_ty (by decide +kernel), false, rfl, q⟩
def spIsNumber : Sp := fun vs H Q _ => ∃ i m : Int, vs = [.int i, .int m] ∧ 0 ≤ i ∧ i < m ∧ Q (.bl true) H
theorem ok_is_number (T : Tx K mg CS CP AM) : GN P w K mg base 2 "is_number" spIsNumber := by
  refine Fd.gn T.f_is_number sc_is_number (fun vs H Q E h => ?_) (fun _ _ _ _ _ _ us hl => match us, hl with | [_, _], _ => rfl) (fun f cdv A outer s H vs Q E hr h => ?_)
  · obtain ⟨i, m, rfl, _⟩ := h
    rfl
  · obtain ⟨i, m, rfl, h0, h1, q⟩ := h
    refine ⟨_, (pss_one (ps_ret (pe_and (pe_g (ok_is_integer T) hr (by rfl) (pa_cons (pv 0) pa_nil)) (pe_one (pe_chain op_le op_lt pe_int (pv 0) (pv 1)))))), ?_⟩
    refine ⟨_, rfl, i, rfl, true, rfl, iteT ?_⟩
    refine ⟨_, rfl, 0, i, rfl, rfl, _, rfl, ?_⟩
    rw [decide_eq_true h0]
    refine iteT ?_
    refine ⟨_, rfl, i, m, rfl, rfl, ?_⟩
    show Q (.bl (decide (i < m))) H
    rw [decide_eq_true h1]
    exact q
end
end K14
/-! M0 -/
set_option Elab.async false
set_option linter.all false
set_option maxRecDepth 100000
set_option maxHeartbeats 4000000
/-! M0: the order of texts; sorted lists. -/
namespace K14
open PySem PySem.Spec PyProof.Rows
def slt (a b : Str) : Prop := a.cps.toList < b.cps.toList
instance (a b : Str) : Decidable (slt a b) := inferInstanceAs (Decidable (a.cps.toList < b.cps.toList))
theorem str_ext {a b : Str} (h : a.cps.toList = b.cps.toList) : a = b := by
  obtain ⟨x⟩ := a
  obtain ⟨y⟩ := b
  have : x = y := Array.ext' h
  rw [this]
theorem slt_irrefl (a : Str) : ¬ slt a a := List.lt_irrefl _
theorem slt_trans {a b c : Str} (h : slt a b) (h' : slt b c) : slt a c := List.lt_trans h h'
theorem slt_tri (a b : Str) : slt a b ∨ a = b ∨ slt b a := by
  by_cases h1 : slt a b
  · exact .inl h1
  · by_cases h2 : slt b a
    · exact .inr (.inr h2)
    · refine .inr (.inl (str_ext ?_))
      have e1 : b.cps.toList ≤ a.cps.toList := List.not_lt.mp h1
      have e2 : a.cps.toList ≤ b.cps.toList := List.not_lt.mp h2
      exact List.le_antisymm e2 e1
theorem slt_asymm {a b : Str} (h : slt a b) : ¬ slt b a := fun h' => slt_irrefl _ (slt_trans h h')
theorem slt_of_not {a b : Str} (h : ¬ slt b a) (n : a ≠ b) : slt a b := by
  rcases slt_tri a b with q | q | q
  · exact q
  · exact absurd q n
  · exact absurd q h
theorem nslt_trans {a b c : Str} (h : ¬ slt b a) (h' : ¬ slt c b) : ¬ slt c a := fun q => by
  rcases slt_tri a b with z | z | z
  · exact h' (slt_trans q z)
  · rw [z] at q
    exact h' q
  · exact h z
theorem sorted_pair : ∀ (l : List Str), sortedS l = true → l.Pairwise (fun a b => ¬ slt b a)
  | [], _ => .nil
  | x :: r, h0 => by
    have h : risingS x r = true := h0
    clear h0
    induction r generalizing x with
    | nil => exact List.pairwise_singleton _ _
    | cons y r ih =>
      have h2 : (!ltCps y.cps.toList x.cps.toList && risingS y r) = true := h
      rw [Bool.and_eq_true] at h2
      have p := ih y h2.2
      have e : ¬ slt y x := by
        have q := h2.1
        rw [ltCps_eq] at q
        intro z
        rw [decide_eq_true (show y.cps.toList < x.cps.toList from z)] at q
        cases q
      refine List.pairwise_cons.mpr ⟨fun z hz => ?_, p⟩
      rcases List.mem_cons.mp hz with ez | hz
      · rw [ez]
        exact e
      · exact nslt_trans e ((List.pairwise_cons.mp p).1 z hz)
theorem pair_slt {l : List Str} (p : l.Pairwise (fun a b => ¬ slt b a)) (n : l.Nodup) : l.Pairwise slt := by
  induction l with
  | nil => exact .nil
  | cons x r ih =>
    obtain ⟨p1, p2⟩ := List.pairwise_cons.mp p
    obtain ⟨n1, n2⟩ := List.nodup_cons.mp n
    exact List.pairwise_cons.mpr ⟨fun z hz => slt_of_not (p1 z hz) fun e => n1 (e ▸ hz), ih p2 n2⟩
/-- strictly rising lists with the same members are equal -/
theorem slt_unique : ∀ {l m : List Str}, l.Pairwise slt → m.Pairwise slt → (∀ x, x ∈ l ↔ x ∈ m) → l = m
  | [], [], _, _, _ => rfl
  | [], b :: m, _, _, h => absurd ((h b).mpr List.mem_cons_self) (by simp)
  | a :: l, [], _, _, h => absurd ((h a).mp List.mem_cons_self) (by simp)
  | a :: l, b :: m, p, q, h => by
    obtain ⟨p1, p2⟩ := List.pairwise_cons.mp p
    obtain ⟨q1, q2⟩ := List.pairwise_cons.mp q
    have e : a = b := by
      rcases List.mem_cons.mp ((h a).mp List.mem_cons_self) with z | z
      · exact z
      · rcases List.mem_cons.mp ((h b).mpr List.mem_cons_self) with y | y
        · exact y.symm
        · exact absurd (p1 b y) (slt_asymm (q1 a z))
    subst e
    rw [slt_unique p2 q2 fun x => ?_]
    constructor
    · intro hx
      rcases List.mem_cons.mp ((h x).mp (List.mem_cons_of_mem _ hx)) with z | z
      · exact absurd (p1 x hx) (by rw [z]; exact slt_irrefl _)
      · exact z
    · intro hx
      rcases List.mem_cons.mp ((h x).mpr (List.mem_cons_of_mem _ hx)) with z | z
      · exact absurd (q1 x hx) (by rw [z]; exact slt_irrefl _)
      · exact z
theorem slt_nodup {l : List Str} (p : l.Pairwise slt) : l.Nodup := by
  refine List.Pairwise.imp (fun {a b} h => ?_) p
  intro e
  rw [e] at h
  exact slt_irrefl b h
/-- what sorted gives of a list whose members are some of U's -/
theorem sorted_is {ys xs U : List Str} (hp : ys.Perm xs) (hs : sortedS ys = true) (nd : xs.Nodup) (hU : U.Pairwise slt) (p : Str → Bool) (hm : ∀ x, x ∈ xs ↔ x ∈ U ∧ p x = true) : ys = U.filter p := by
  refine slt_unique (pair_slt (sorted_pair ys hs) (hp.nodup_iff.mpr nd)) (hU.filter p) fun x => ?_
  rw [hp.mem_iff, hm x, List.mem_filter]
end K14
/-! A3 -/
set_option Elab.async false
set_option linter.all false
set_option maxRecDepth 100000
set_option maxHeartbeats 4000000
/-! A3: what stands in the heap: rows, sums, tables of leading names, spaces. -/
namespace K14
open PySem PySem.Spec PyProof.Rows L2
theorem om_ow : ¬ (("own_modulus" : Str) = "own_weights") := by decide +kernel
theorem om_oc : ¬ (("own_modulus" : Str) = "own_constant") := by decide +kernel
theorem ow_oc : ¬ (("own_weights" : Str) = "own_constant") := by decide +kernel
theorem om_or : ¬ (("own_modulus" : Str) = "own_rows") := by decide +kernel
def sumF (q : Int) (d : Addr) (c : Int) : List (Str × V) := putF "own_constant" (.int c) (putF "own_weights" (.ref d) (putF "own_modulus" (.int q) []))
theorem sumF_m (q : Int) (d : Addr) (c : Int) : (sumF q d c).lookup ("own_modulus" : Str) = some (.int q) := by
  unfold sumF
  rw [lookup_putF, if_neg om_oc, lookup_putF, if_neg om_ow, lookup_putF, if_pos rfl]
theorem sumF_w (q : Int) (d : Addr) (c : Int) : (sumF q d c).lookup ("own_weights" : Str) = some (.ref d) := by
  unfold sumF
  rw [lookup_putF, if_neg ow_oc, lookup_putF, if_pos rfl]
theorem sumF_c (q : Int) (d : Addr) (c : Int) : (sumF q d c).lookup ("own_constant" : Str) = some (.int c) := by
  unfold sumF
  rw [lookup_putF, if_pos rfl]
theorem sumF_no (q : Int) (d : Addr) (c : Int) {m : Str} (h1 : ¬ m = "own_constant") (h2 : ¬ m = "own_weights") (h3 : ¬ m = "own_modulus") : (sumF q d c).lookup m = none := by
  unfold sumF
  rw [lookup_putF, if_neg h1, lookup_putF, if_neg h2, lookup_putF, if_neg h3]
  all_goals rfl
def spF (q : Int) (d : Addr) : List (Str × V) := putF "own_rows" (.ref d) (putF "own_modulus" (.int q) [])
theorem spF_m (q : Int) (d : Addr) : (spF q d).lookup ("own_modulus" : Str) = some (.int q) := by
  unfold spF
  rw [lookup_putF, if_neg om_or, lookup_putF, if_pos rfl]
theorem spF_r (q : Int) (d : Addr) : (spF q d).lookup ("own_rows" : Str) = some (.ref d) := by
  unfold spF
  rw [lookup_putF, if_pos rfl]
theorem spF_no (q : Int) (d : Addr) {m : Str} (h1 : ¬ m = "own_rows") (h2 : ¬ m = "own_modulus") : (spF q d).lookup m = none := by
  unfold spF
  rw [lookup_putF, if_neg h1, lookup_putF, if_neg h2]
  all_goals rfl
/-! ### rows -/
def RowAt (W : List Str) (q : Int) (H : Hp) (d : Addr) (f : Str → Int) : Prop := ∃ kvs, H d = some (.dK kvs) ∧ Rw W q kvs f
section
variable {W : List Str} {q : Int} {H H' : Hp} {d : Addr} {f : Str → Int}
theorem RowAt.same (r : RowAt W q H d f) (s : Same H H') : RowAt W q H' d f := by
  obtain ⟨kvs, h, t⟩ := r
  exact ⟨kvs, s _ _ h, t⟩
theorem RowAt.keep {r : Addr} (h : RowAt W q H d f) (s : SameB r H H') (n : d ≠ r) : RowAt W q H' d f := by
  obtain ⟨kvs, h, t⟩ := h
  exact ⟨kvs, s _ _ n h, t⟩
theorem RowAt.upd {a : Addr} {o : HO} (r : RowAt W q H d f) (n : d ≠ a) : RowAt W q (L2.upd H a o) d f := by
  obtain ⟨kvs, h, t⟩ := r
  exact ⟨kvs, by rw [upd_ne n]; exact h, t⟩
theorem RowAt.eq {g : Str → Int} (r : RowAt W q H d f) (e : ∀ x, f x = g x) : RowAt W q H d g := by
  obtain ⟨kvs, h, t⟩ := r
  exact ⟨kvs, h, t.eq e⟩
theorem RowAt.rg (r : RowAt W q H d f) (x : Str) : 0 ≤ f x ∧ f x < q := by
  obtain ⟨kvs, h, t⟩ := r
  exact t.rg x
theorem Tb.off {kvs : List (Key × V)} (t : Tb W kvs f) {x : Str} (hx : x ∉ W) : f x = 0 := by
  cases e : valV kvs (Sum.inr x : Key) with
  | none => exact t.out x e
  | some v =>
    obtain ⟨y, hp, hy⟩ := t.ks _ (valV_mem e)
    have h1 : (Sum.inr x : Key) = Sum.inr y := congrArg Prod.fst hp
    exact absurd ((Sum.inr.inj h1) ▸ hy) hx
theorem RowAt.off (r : RowAt W q H d f) {x : Str} (hx : x ∉ W) : f x = 0 := by
  obtain ⟨kvs, h, t⟩ := r
  exact t.toTb.off hx
end
/-! ### sums -/
def canon (U : List Str) (f : Str → Int) : List (Key × V) := (U.filter fun x => decide (f x ≠ 0)).map fun x => ((Sum.inr x : Key), V.int (f x))
theorem canon_keys (U : List Str) (f : Str → Int) : (canon U f).map (·.1) = (U.filter fun x => decide (f x ≠ 0)).map Sum.inr := by
  unfold canon
  rw [List.map_map]
  rfl
theorem nodup_map_inr {l : List Str} (h : l.Nodup) : (l.map (Sum.inr : Str → Key)).Nodup := by
  induction l with
  | nil => exact List.nodup_nil
  | cons a r ih =>
    obtain ⟨h1, h2⟩ := List.nodup_cons.mp h
    refine List.nodup_cons.mpr ⟨fun m => ?_, ih h2⟩
    obtain ⟨b, hb, e⟩ := List.mem_map.mp m
    exact h1 (Sum.inr.inj e ▸ hb)
theorem canon_rw {U W : List Str} {q : Int} {f : Str → Int} (nd : U.Nodup) (sub : ∀ x ∈ U, x ∈ W) (rg : ∀ x, 0 ≤ f x ∧ f x < q) (sup : ∀ x, x ∉ U → f x = 0) : Rw W q (canon U f) f := by
  have ndk : ((canon U f).map (·.1)).Nodup := by
    rw [canon_keys]
    exact nodup_map_inr (List.Nodup.sublist List.filter_sublist nd)
  refine ⟨⟨ndk, fun p hp => ?_, fun x h => ?_⟩, fun x h => ?_, rg⟩
  · obtain ⟨x, hx, e⟩ := List.mem_map.mp hp
    exact ⟨x, e.symm, sub x (List.mem_filter.mp hx).1⟩
  · refine Decidable.byContradiction fun n => ?_
    have hU : x ∈ U := Decidable.byContradiction fun z => n (sup x z)
    have : valV (canon U f) (Sum.inr x : Key) = some (.int (f x)) := valV_of_mem ndk (List.mem_map.mpr ⟨x, List.mem_filter.mpr ⟨hU, decide_eq_true n⟩, rfl⟩)
    rw [this] at h
    cases h
  · cases e : valV (canon U f) (Sum.inr x : Key) with
    | none => exact absurd e h
    | some v =>
      obtain ⟨y, hy, e2⟩ := List.mem_map.mp (valV_mem e)
      have h1 : (Sum.inr y : Key) = Sum.inr x := congrArg Prod.fst e2
      rw [← Sum.inr.inj h1]
      exact of_decide_eq_true (List.mem_filter.mp hy).2
structure SumAt (CS : Addr) (H : Hp) (p : Addr) (U : List Str) (q : Int) (f : Str → Int) (c : Int) : Prop where
  ex : ∃ dx d, H p = some (.ins CS dx (sumF q d c)) ∧ H d = some (.dK (canon U f))
  rg : ∀ x, 0 ≤ f x ∧ f x < q
  sup : ∀ x, x ∉ U → f x = 0
  cr : 0 ≤ c ∧ c < q
theorem SumAt.same {CS : Addr} {H H' : Hp} {p : Addr} {U : List Str} {q : Int} {f : Str → Int} {c : Int} (a : SumAt CS H p U q f c) (s : Same H H') : SumAt CS H' p U q f c := by
  obtain ⟨dx, d, h1, h2⟩ := a.ex
  exact ⟨⟨dx, d, s _ _ h1, s _ _ h2⟩, a.rg, a.sup, a.cr⟩
/-- a universe of names -/
structure Uok (U : List Str) : Prop where
  so : U.Pairwise slt
  nm : ∀ x ∈ U, NameOk x
  ln : U.length ≤ 7
theorem Uok.nd {U : List Str} (u : Uok U) : U.Nodup := slt_nodup u.so
/-! ### leading names -/
abbrev Ld := List (Str × Addr × (Str → Int))
def ldK (L : Ld) : List (Key × V) := L.map fun p => ((Sum.inr p.1 : Key), V.ref p.2.1)
structure LeadsAt (W : List Str) (q : Int) (H : Hp) (D : Addr) (L : Ld) : Prop where
  at_ : H D = some (.dK (ldK L))
  row : ∀ p ∈ L, RowAt W q H p.2.1 p.2.2
theorem LeadsAt.same {W : List Str} {q : Int} {H H' : Hp} {D : Addr} {L : Ld} (a : LeadsAt W q H D L) (s : Same H H') : LeadsAt W q H' D L :=
  ⟨s _ _ a.at_, fun p hp => (a.row p hp).same s⟩
theorem LeadsAt.ne {W : List Str} {q : Int} {H : Hp} {D : Addr} {L : Ld} (a : LeadsAt W q H D L) {d : Addr} {f : Str → Int} (r : RowAt W q H d f) (hL : L ≠ []) : d ≠ D := by
  intro e
  obtain ⟨kvs, h, t⟩ := r
  rw [e, a.at_] at h
  have e2 : kvs = ldK L := by injection h with h; injection h with h; exact h.symm
  cases L with
  | nil => exact hL rfl
  | cons p L =>
    have hm : ((Sum.inr p.1 : Key), V.ref p.2.1) ∈ kvs := by
      rw [e2]
      exact List.mem_cons_self
    obtain ⟨x, ex, _⟩ := t.ks _ hm
    have : V.ref p.2.1 = V.int (f x) := congrArg Prod.snd ex
    cases this
/-! ### spaces -/
structure SpAt (CP : Addr) (H : Hp) (p : Addr) (W : List Str) (q : Int) (L : Ld) : Prop where
  ex : ∃ dx D, H p = some (.ins CP dx (spF q D)) ∧ LeadsAt W q H D L
  so : (L.map (·.1)).Pairwise slt
theorem SpAt.same {CP : Addr} {H H' : Hp} {p : Addr} {W : List Str} {q : Int} {L : Ld} (a : SpAt CP H p W q L) (s : Same H H') : SpAt CP H' p W q L := by
  obtain ⟨dx, D, h1, h2⟩ := a.ex
  exact ⟨⟨dx, D, s _ _ h1, h2.same s⟩, a.so⟩
end K14
/-! A4 -/
set_option Elab.async false
set_option linter.all false
set_option maxRecDepth 100000
set_option maxHeartbeats 4000000
/-! A4: dict comprehensions over a table's items; a table's names as texts. -/
namespace K14
open PySem PySem.Spec PyProof.Rows L2
/-- what passes a test on name and number -/
def pss (p : Str → Int → Bool) : Key × V → Bool
  | (.inr x, .int v) => p x v
  | _ => false
theorem take_snoc {α : Type} {l : List α} {i : Nat} {x : α} (h : l[i]? = some x) : l.take (i + 1) = l.take i ++ [x] := by
  rw [List.take_add_one, h]
  rfl
theorem dcF {K : PySem.W.Frag} {W : List Str} {g : Str → Int} {kvs : List (Key × V)} {d : Addr} {σ : L2.St} {H : Hp} {Q : VK} {td : TE} {i j : Nat} {tt : TT} (p : Str → Int → Bool)
    (hd : H d = some (.dK kvs)) (t : Tb W kvs g) (hW : W.length ≤ 1000) (htd : ∀ H' R, R (.ref d) H' → td σ H' R)
    (hw : ∀ x v, wipe (((wipe σ [i, j]).set i (some (.str x))).set j (some (.int v))) [i, j] = wipe σ [i, j])
    (hi : ∀ x v, (((wipe σ [i, j]).set i (some (.str x))).set j (some (.int v)))[i]? = some (some (.str x)))
    (hj : ∀ x v, (((wipe σ [i, j]).set i (some (.str x))).set j (some (.int v)))[j]? = some (some (.int v)))
    (hc : ∀ x v H' (R : Bool → Hp → Prop), x ∈ W → R (p x v) H' → tt (((wipe σ [i, j]).set i (some (.str x))).set j (some (.int v))) H' R)
    (q : ∀ D H', Same H H' → H D = none → H' D = some (.dK (kvs.filter (pss p))) → Q (.ref D) H') :
    tLockE (tDc (iItems td) (gTup K 2 (gCons (gName i) (gCons (gName j) gNil))) tt (tVar i) (tVar j) [i, j]) σ H Q := by
  refine ⟨d, .dK kvs, hd, trivial, fun od => ?_⟩
  refine htd _ _ ⟨d, od, kvs, rfl, upd_same, fun D hD => ?_⟩
  obtain ⟨hD0, nDd⟩ := free_lock hD
  refine dc_by kvs.length (fun n H' => Same (upd H d (.frz od (.dK kvs))) H' ∧ H' D = some (.dK ((kvs.take n).filter (pss p)))) ⟨same_new hD, by rw [upd_same]; rfl⟩ ?_ ?_
  · rintro n H1 hlt ⟨s1, e1⟩
    refine ⟨⟨s1 _ _ upd_same, hlt⟩, ?_⟩
    rintro x H2 ⟨T, k, v, hkv, rfl, hT, rfl⟩
    have hmem : (k, v) ∈ kvs := List.mem_of_getElem? hkv
    obtain ⟨y, ey, hyW⟩ := t.ks _ hmem
    obtain ⟨rfl, rfl⟩ : k = (Sum.inr y : Key) ∧ v = V.int (g y) := ⟨congrArg Prod.fst ey, congrArg Prod.snd ey⟩
    have nDT : D ≠ T := ne_of_none e1 hT
    refine ⟨T, [.str y, .int (g y)], rfl, .inl (.inl upd_same), rfl, _, _, rfl, _, _, rfl, rfl, hw _ _, hc _ _ _ _ hyW ?_⟩
    have hnew : valV ((kvs.take n).filter (pss p)) (Sum.inr y : Key) = none := by
      cases e : valV ((kvs.take n).filter (pss p)) (Sum.inr y : Key) with
      | none => rfl
      | some u =>
        have hm := (List.mem_filter.mp (valV_mem e)).1
        obtain ⟨m, hm1, hm2⟩ := List.mem_iff_getElem.mp hm
        rw [List.length_take] at hm1
        have hmn : m < n := by omega
        have hml : m < kvs.length := by omega
        rw [List.getElem_take] at hm2
        have nd := t.nd
        have e1' : (kvs.map (·.1))[m]? = some (Sum.inr y : Key) := by
          rw [List.getElem?_map, List.getElem?_eq_getElem hml, hm2]
          rfl
        have e2' : (kvs.map (·.1))[n]? = some (Sum.inr y : Key) := by
          rw [List.getElem?_map, hkv]
          rfl
        exact absurd (nd_ix nd e1' e2') (by omega)
    have e2 : (upd H1 T (.tup [.str y, .int (g y)])) D = some (.dK ((kvs.take n).filter (pss p))) := by
      rw [upd_ne nDT]
      exact e1
    have s2 : Same (upd H d (.frz od (.dK kvs))) (upd H1 T (.tup [.str y, .int (g y)])) := same_add s1 hT
    refine ite2 (fun hp => ?_) (fun hp => ?_)
    · refine ⟨_, hi _ _, _, hj _ _, _, (Sum.inr y : Key), rfl, e2, ?_, same_mut s2 hD, ?_⟩
      · have := t.len
        have h1 : ((kvs.take n).filter (pss p)).length ≤ (kvs.take n).length := List.length_filter_le _ _
        rw [List.length_take] at h1
        exact small1000 (by omega)
      · have hps : pss p (Sum.inr y, V.int (g y)) = true := hp
        rw [upd_same, putK_new _ hnew, take_snoc hkv, List.filter_append, List.filter_cons, if_pos hps]
        rfl
    · refine ⟨s2, ?_⟩
      have hps : ¬ pss p (Sum.inr y, V.int (g y)) = true := hp
      refine Eq.trans e2 ?_
      rw [take_snoc hkv, List.filter_append, List.filter_cons, if_neg hps, List.filter_nil, List.append_nil]
  · rintro H1 ⟨s1, e1⟩
    refine ⟨⟨s1 _ _ upd_same, Nat.le_refl _⟩, s1 _ _ upd_same, q D _ (same_unlock hd s1) hD0 ?_⟩
    rw [upd_ne nDd, e1, List.take_length]
/-- what such a comprehension leaves, as a row -/
theorem Tb.filter {W : List Str} {kvs : List (Key × V)} {g : Str → Int} (t : Tb W kvs g) (p : Str → Int → Bool) (f : Str → Int) (q : Int) (hf : ∀ x, f x = if p x (g x) = true then g x else 0)
    (hp : ∀ x, p x (g x) = true → valV kvs (Sum.inr x : Key) ≠ none → g x ≠ 0) (rg : ∀ x, 0 ≤ f x ∧ f x < q) : Rw W q (kvs.filter (pss p)) f := by
  have at_ : ∀ x, valV (kvs.filter (pss p)) (Sum.inr x : Key) = (valV kvs (Sum.inr x : Key)).bind fun v => if pss p (Sum.inr x, v) = true then some v else none := fun x => valV_filter t.nd
  refine ⟨⟨nodup_filter_keys t.nd, fun e he => ?_, fun x h => ?_⟩, fun x h => ?_, rg⟩
  · obtain ⟨hm, hps⟩ := List.mem_filter.mp he
    obtain ⟨x, ex, hx⟩ := t.ks e hm
    subst ex
    refine ⟨x, ?_, hx⟩
    rw [hf x, if_pos (show p x (g x) = true from hps)]
  · rw [at_] at h
    rw [hf x]
    rcases t.get x with e | ⟨e, e0⟩
    · rw [e] at h
      by_cases hp1 : p x (g x) = true
      · have h2 : (if pss p (Sum.inr x, V.int (g x)) = true then some (V.int (g x)) else none) = none := h
        rw [if_pos (show pss p (Sum.inr x, V.int (g x)) = true from hp1)] at h2
        cases h2
      · rw [if_neg hp1]
    · rw [e0]
      split <;> rfl
  · rw [at_] at h
    rcases t.get x with e | ⟨e, e0⟩
    · rw [e] at h
      by_cases hp1 : p x (g x) = true
      · rw [hf x, if_pos hp1]
        exact hp x hp1 (by rw [e]; exact fun z => nomatch z)
      · exfalso
        refine h ?_
        show (if pss p (Sum.inr x, V.int (g x)) = true then some (V.int (g x)) else none) = none
        exact if_neg hp1
    · rw [e] at h
      exact absurd rfl h
/-- a table's names -/
def tbK (kvs : List (Key × V)) : List Str := kvs.filterMap fun p => match p.1 with
  | .inr x => some x
  | .inl _ => none
theorem tbK_map : ∀ {kvs : List (Key × V)}, (∀ p ∈ kvs, ∃ x, p.1 = (Sum.inr x : Key)) → kvs.map (·.1) = (tbK kvs).map Sum.inr
  | [], _ => rfl
  | p :: r, h => by
    obtain ⟨x, e⟩ := h p List.mem_cons_self
    have ih := tbK_map (kvs := r) fun p hp => h p (List.mem_cons_of_mem _ hp)
    have e2 : tbK (p :: r) = x :: tbK r := by
      unfold tbK
      rw [List.filterMap_cons, e]
    rw [e2, List.map_cons, List.map_cons, ← ih, e]
theorem Tb.names {W : List Str} {kvs : List (Key × V)} {g : Str → Int} (t : Tb W kvs g) : kvs.map (·.1) = (tbK kvs).map Sum.inr := tbK_map fun p hp => by
  obtain ⟨x, e, _⟩ := t.ks p hp
  exact ⟨x, congrArg Prod.fst e⟩
theorem tbK_len {kvs : List (Key × V)} (h : kvs.map (·.1) = (tbK kvs).map Sum.inr) : (tbK kvs).length = kvs.length := by
  have := congrArg List.length h
  rw [List.length_map, List.length_map] at this
  exact this.symm
theorem tbK_nd {kvs : List (Key × V)} (h : kvs.map (·.1) = (tbK kvs).map Sum.inr) (nd : (kvs.map (·.1)).Nodup) : (tbK kvs).Nodup := by
  rw [h] at nd
  exact (List.pairwise_map.mp nd).imp fun h e => h (congrArg _ e)
theorem tbK_mem {kvs : List (Key × V)} (h : kvs.map (·.1) = (tbK kvs).map Sum.inr) {x : Str} : x ∈ tbK kvs ↔ valV kvs (Sum.inr x : Key) ≠ none := by
  constructor
  · intro hx e
    have : (Sum.inr x : Key) ∈ kvs.map (·.1) := by
      rw [h]
      exact List.mem_map.mpr ⟨x, hx, rfl⟩
    exact valV_not e this
  · intro hx
    cases e : valV kvs (Sum.inr x : Key) with
    | none => exact absurd e hx
    | some v =>
      have := valV_in e
      rw [h] at this
      obtain ⟨y, hy, ey⟩ := List.mem_map.mp this
      exact Sum.inr.inj ey ▸ hy
end K14
/-! D2 -/
set_option Elab.async false
set_option linter.all false
set_option maxRecDepth 100000
set_option maxHeartbeats 4000000
/-! D2: the rest of quietsums/sums.py. -/
namespace K14
open PySem PySem.Spec PyProof.Rows L2
def Qok (q : Int) : Prop := q = 2 ∨ q = 3 ∨ q = 5
theorem kitAny_list (K : PySem.W.Frag) : PySem.W.kitAny K (.type "list") [.type "list", .type "tuple"] = some true := by
  unfold PySem.W.kitAny
  rw [kit_ty (K := K) (a := "list") (b := "list") (r := true) (by decide +kernel)]
theorem kitAny_tuple (K : PySem.W.Frag) : PySem.W.kitAny K (.type "tuple") [.type "list", .type "tuple"] = some true := by
  unfold PySem.W.kitAny
  rw [kit_ty (K := K) (a := "tuple") (b := "list") (r := false) (by decide +kernel)]
  unfold PySem.W.kitAny
  rw [kit_ty (K := K) (a := "tuple") (b := "tuple") (r := true) (by decide +kernel)]
section
variable {P : Program} {w : World} {K : PySem.W.Frag} {mg : Str → Option Value} {base : Heap} {CS CP AM : Addr}
def spIsList : Sp := fun vs H Q _ => ∃ (a : Addr) (xs : List V), vs = [.ref a] ∧ (H a = some (.lst xs) ∨ H a = some (.tup xs)) ∧ ∀ H', Same H H' → Q (.bl true) H'
theorem ok_is_list (T : Tx K mg CS CP AM) : GN P w K mg base 1 "is_list" spIsList := by
  refine Fd.gn T.f_is_list sc_is_list (fun vs H Q E h => ?_) (fun _ _ _ _ _ _ us hl => match us, hl with | [_], _ => rfl) (fun f cdv A outer s H vs Q E hr h => ?_)
  · obtain ⟨a, xs, rfl, _⟩ := h
    rfl
  · obtain ⟨a, xs, rfl, ha, q⟩ := h
    refine ⟨_, (pss_one (ps_ret (pe_callB call_isiT (by rfl) T.n_isinstance bo_isinstance (pa_cons (pv 0) (pa_cons (pe_tup (pa_cons (pe_ty bo_list (by rfl) T.n_list) (pa_cons (pe_ty bo_tuple (by rfl) T.n_tuple) pa_nil))) pa_nil))))), ?_⟩
    refine ⟨_, rfl, by show 2 ≤ sizeLine; decide, fun p hp => ?_⟩
    have hcs : Paired ClsV [V.ty "list", V.ty "tuple"] [Value.type "list", Value.type "tuple"] := .cons (.ty _) (.cons (.ty _) .nil)
    rcases ha with ha | ha
    · exact ⟨_, p, _, _, _, true, rfl, upd_same, hcs, .base (.lst (by rw [upd_ne (ne_of_none ha hp)]; exact ha)), kitAny_list K, q _ (same_new hp)⟩
    · exact ⟨_, p, _, _, _, true, rfl, upd_same, hcs, .base (.tup (by rw [upd_ne (ne_of_none ha hp)]; exact ha)), kitAny_tuple K, q _ (same_new hp)⟩
def spIsWorld : Sp := fun vs H Q _ => ∃ (d : Addr) (m : Int) (kvs : List (Key × V)), vs = [.ref d, .int m] ∧ H d = some (.dK kvs) ∧ kvs.length ≤ 100 ∧ (∀ p ∈ kvs, ∃ x v, p = ((Sum.inr x : Key), V.int v) ∧ NameOk x ∧ 0 ≤ v ∧ v < m) ∧ ∀ H', Same H H' → Q (.bl true) H'
theorem ok_is_world (T : Tx K mg CS CP AM) : GN P w K mg base 3 "is_world" spIsWorld := by
  refine Fd.gn T.f_is_world sc_is_world (fun vs H Q E h => ?_) (fun _ _ _ _ _ _ us hl => match us, hl with | [_, _], _ => rfl) (fun f cdv A outer s H vs Q E hr h => ?_)
  · obtain ⟨d, m, kvs, rfl, _⟩ := h
    rfl
  · obtain ⟨d, m, kvs, rfl, hd, hl, hk, q⟩ := h
    refine ⟨_, (pss_cons (ps_if (pt_not (pt_val (pe_callB call_isi (by rfl) T.n_isinstance bo_isinstance (pa_cons (pv 0) (pa_cons (pe_ty bo_dict (by rfl) T.n_dict) pa_nil))))) (pss_one (ps_ret pe_bl)) pss_nil)
      (pss_one (ps_ret (pe_callB (cr_all rfl) (by rfl) T.n_all bo_all (pa_cons (pe_lock (pe_lc (own := [("name", 2), ("number", 3)]) rfl sc_is_world.nd (pi_items (pv 0)) (blkOk_by (N := N_is_world) (sc := defScope st_is_world) (by decide +kernel)) (fun _ _ _ _ _ => (pg_tup' (K := K) 2 (pgs_cons (pg_name (i := 2) sc_is_world.nd rfl (Or.inl rfl) (Or.inr rfl)) (pgs_cons (pg_name (i := 3) sc_is_world.nd rfl (Or.inl rfl) (Or.inr rfl)) pgs_nil)))) (fun _ _ _ _ _ => pts_nil) (fun _ _ _ _ _ => (pe_and (pe_g (ok_is_name T) hr (by rfl) (pa_cons (pv 2) pa_nil)) (pe_one (pe_g (ok_is_number T) hr (by rfl) (pa_cons (pv 3) (pa_cons (pv 1) pa_nil)))))))) pa_nil))))), ?_⟩
    refine ⟨_, rfl, _, _, _, _, true, rfl, .ty _, .base (.dK hd), kit_ty (by decide +kernel), true, rfl, iteF ?_⟩
    refine ⟨d, .dK kvs, hd, trivial, fun od => ?_⟩
    refine ⟨_, rfl, d, od, kvs, rfl, upd_same, fun D hD => ?_⟩
    obtain ⟨hD0, nDd⟩ := free_lock hD
    refine lc_by kvs.length (fun n H' => Same (upd H d (.frz od (.dK kvs))) H' ∧ H' D = some (.lst (List.replicate n (V.bl true)))) ⟨same_new hD, upd_same⟩ ?_ ?_
    · rintro n H1 hlt ⟨s1, e1⟩
      refine ⟨⟨s1 _ _ upd_same, hlt⟩, ?_⟩
      rintro x H2 ⟨t, k, v, hkv, rfl, ht, rfl⟩
      obtain ⟨y, i, ey, hy, h0, h1⟩ := hk _ (List.mem_of_getElem? hkv)
      obtain ⟨rfl, rfl⟩ : k = (Sum.inr y : Key) ∧ v = V.int i := ⟨congrArg Prod.fst ey, congrArg Prod.snd ey⟩
      have nDt : D ≠ t := ne_of_none e1 ht
      refine ⟨t, [.str y, .int i], rfl, .inl (.inl upd_same), rfl, _, _, rfl, _, _, rfl, rfl, rfl, ?_⟩
      refine ⟨_, rfl, y, rfl, hy, fun H3 s3 => ⟨true, rfl, iteT ?_⟩⟩
      refine ⟨_, rfl, _, rfl, i, m, rfl, h0, h1, ?_⟩
      have e3 : H3 D = some (.lst (List.replicate n (V.bl true))) := s3 _ _ (by rw [upd_ne nDt]; exact e1)
      refine ⟨_, e3, by rw [List.length_replicate]; exact small1000 (by omega), same_mut ((same_add s1 ht).trans s3) hD, ?_⟩
      rw [upd_same, List.replicate_succ']
    · rintro H1 ⟨s1, e1⟩
      refine ⟨⟨s1 _ _ upd_same, Nat.le_refl _⟩, s1 _ _ upd_same, D, List.replicate kvs.length true, rfl, SqL.of ?_, ?_⟩
      · rw [upd_ne nDd, e1, List.map_replicate]
      · have : (List.replicate kvs.length true).all id = true := by simp
        rw [this]
        exact q _ (same_unlock hd s1)
/-- a Sum of the modulus k, or nothing that is a Sum -/
def spIsSum (K : PySem.W.Frag) (CS : Addr) : Sp := fun vs H Q _ => ∃ (x : V) (m : Int), vs = [x, .int m] ∧
  ((∃ (a dx : Addr) (fs : List (Str × V)) (k : Int), x = .ref a ∧ H a = some (.ins CS dx fs) ∧ fs.lookup ("own_modulus" : Str) = some (.int k) ∧ Q (.bl (decide (k = m))) H) ∨
   ∃ t, TyX K H x t ∧ PySem.W.kitOne K t (.ref CS) = some false ∧ Q (.bl false) H)
theorem ok_is_sum (T : Tx K mg CS CP AM) : GN P w K mg base 1 "is_sum" (spIsSum K CS) := by
  refine Fd.gn T.f_is_sum sc_is_sum (fun vs H Q E h => ?_) (fun _ _ _ _ _ _ us hl => match us, hl with | [_, _], _ => rfl) (fun f cdv A outer s H vs Q E hr h => ?_)
  · obtain ⟨x, m, rfl, _⟩ := h
    rfl
  · obtain ⟨x, m, rfl, h⟩ := h
    have T_g := T.c_Sum.g
    refine ⟨_, (pss_one (ps_ret (pe_and (pe_callB call_isi (by rfl) T.n_isinstance bo_isinstance (pa_cons (pv 0) (pa_cons (pe_gref (by rfl) T.c_Sum.g) pa_nil))) (pe_one (pe_cmpR op_eq (pe_fld (pv 0) rfl) (pv 1) (nomark _)))))), ?_⟩
    rcases h with ⟨a, dx, fs, k, rfl, ha, hl, q⟩ | ⟨t, ht, hk, q⟩
    · refine ⟨_, rfl, _, _, _, _, true, rfl, .own CS, tyOf_S T ha, T.k_SS, true, rfl, iteT ?_⟩
      refine ⟨_, rfl, a, CS, dx, fs, _, rfl, ha, T.c_Sum.cl, T.a_Sum_own_modulus, hl, _, rfl, rfl, ?_⟩
      have e : decide (V.int k = V.int m) = decide (k = m) := by
        by_cases z : k = m
        · rw [z, decide_eq_true rfl, decide_eq_true rfl]
        · rw [decide_eq_false z, decide_eq_false fun y => z (V.int.inj y)]
      show Q (.bl (decide (V.int k = V.int m))) H
      rw [e]
      exact q
    · exact ⟨_, rfl, _, _, _, _, false, rfl, .own CS, ht, hk, false, rfl, iteF q⟩
def spWantModulus : Sp := fun vs H Q _ => ∃ m : Int, vs = [.int m] ∧ Qok m ∧ Q .non H
theorem ok_want_modulus (T : Tx K mg CS CP AM) : GN P w K mg base 2 "want_modulus" spWantModulus := by
  refine Fd.gn T.f_want_modulus sc_want_modulus (fun vs H Q E h => ?_) (fun _ _ _ _ _ _ us hl => match us, hl with | [_], _ => rfl) (fun f cdv A outer s H vs Q E hr h => ?_)
  · obtain ⟨m, rfl, _⟩ := h
    rfl
  · obtain ⟨m, rfl, hm, q⟩ := h
    refine ⟨_, (pss_one (ps_if (PW.pt (pw_or (pt_not (pt_val (pe_g (ok_is_integer T) hr (by rfl) (pa_cons (pv 0) pa_nil)))) (pw_or1 (pt_cmpR op_notIn_seq (pv 0) (pe_gref (by rfl) T.g_MODULI) rfl)))) pss_never pss_nil)), ?_⟩
    refine ⟨_, rfl, m, rfl, true, rfl, iteF ?_⟩
    refine ⟨_, rfl, AM, _, rfl, .inr (T.t_MODULI _), rfl, rfl, false, ?_, iteF q⟩
    rcases hm with rfl | rfl | rfl <;> rfl
def spWantSum (CS : Addr) : Sp := fun vs H Q _ => ∃ (a dx : Addr) (fs : List (Str × V)) (m : Int), vs = [.ref a, .int m] ∧ H a = some (.ins CS dx fs) ∧ fs.lookup ("own_modulus" : Str) = some (.int m) ∧ Q .non H
theorem ok_want_sum (T : Tx K mg CS CP AM) : GN P w K mg base 2 "want_sum" (spWantSum CS) := by
  refine Fd.gn T.f_want_sum sc_want_sum (fun vs H Q E h => ?_) (fun _ _ _ _ _ _ us hl => match us, hl with | [_, _], _ => rfl) (fun f cdv A outer s H vs Q E hr h => ?_)
  · obtain ⟨a, dx, fs, m, rfl, _⟩ := h
    rfl
  · obtain ⟨a, dx, fs, m, rfl, ha, hl, q⟩ := h
    refine ⟨_, (pss_one (ps_if (pt_not (pt_val (pe_g (ok_is_sum T) hr (by rfl) (pa_cons (pv 0) (pa_cons (pv 1) pa_nil))))) pss_never pss_nil)), ?_⟩
    refine ⟨_, rfl, _, rfl, _, m, rfl, .inl ⟨a, dx, fs, m, rfl, ha, hl, true, ?_, iteF q⟩⟩
    rw [decide_eq_true rfl]
theorem inv_ex {q a : Int} (hq : Qok q) (h0 : 0 < a) (h1 : a < q) : ∃ b, 0 < b ∧ b < q ∧ a * b % q = 1 := by
  rcases hq with rfl | rfl | rfl
  · have : a = 1 := by omega
    subst this
    exact ⟨1, by decide⟩
  · have : a = 1 ∨ a = 2 := by omega
    rcases this with rfl | rfl
    · exact ⟨1, by decide⟩
    · exact ⟨2, by decide⟩
  · have : a = 1 ∨ a = 2 ∨ a = 3 ∨ a = 4 := by omega
    rcases this with rfl | rfl | rfl | rfl
    · exact ⟨1, by decide⟩
    · exact ⟨3, by decide⟩
    · exact ⟨2, by decide⟩
    · exact ⟨4, by decide⟩
theorem Qok.pos {q : Int} (h : Qok q) : 2 ≤ q ∧ q ≤ 5 := by
  rcases h with rfl | rfl | rfl <;> decide
def spInverse : Sp := fun vs H Q _ => ∃ (a q : Int), vs = [.int a, .int q] ∧ Qok q ∧ 0 < a ∧ a < q ∧ ∀ b H', 0 < b → b < q → a * b % q = 1 → Same H H' → Q (.int b) H'
theorem ok_inverse (T : Tx K mg CS CP AM) : GN P w K mg base 1 "inverse" spInverse := by
  refine Fd.gn T.f_inverse sc_inverse (fun vs H Q E h => ?_) (fun _ _ _ _ _ _ us hl => match us, hl with | [_, _], _ => rfl) (fun f cdv A outer s H vs Q E hr h => ?_)
  · obtain ⟨a, q, rfl, _⟩ := h
    rfl
  · obtain ⟨a, q, rfl, hq, h0, h1, k⟩ := h
    have hq2 := hq.pos
    refine ⟨_, (pss_one (ps_ret (pe_ix ix_list (pe_lc (own := [("other", 2)]) rfl sc_inverse.nd (pi_range2 (by rfl) T.n_range (pa_cons pe_int (pa_cons (pv 1) pa_nil))) (blkOk_by (N := N_inverse) (sc := defScope st_inverse) (by decide +kernel)) (fun _ _ _ _ _ => (pg_name (i := 2) sc_inverse.nd rfl (Or.inl rfl) (Or.inr rfl))) (fun _ _ _ _ _ => (pts_one (pt_cmpR op_eq (pe_op op_mod (pe_op op_mul (pv 0) (pv 2)) (pv 1)) pe_int (nomark _)))) (fun _ _ _ _ _ => (pv 2))) pe_int (fun _ _ => rfl)))), ?_⟩
    refine ⟨_, rfl, 1, q, rfl, ⟨by omega, by omega, by omega, by omega⟩, fun D hD => ?_⟩
    refine lc_by (q - 1).toNat (fun n H' => Same H H' ∧ ∃ bs : List Int, H' D = some (.lst (bs.map V.int)) ∧ bs.length ≤ n ∧ (∀ b ∈ bs, 0 < b ∧ b < q ∧ a * b % q = 1) ∧ ∀ b, 0 < b → b < 1 + (n : Int) → a * b % q = 1 → b ∈ bs) ⟨same_new hD, [], upd_same, Nat.zero_le _, fun b hb => (nomatch hb), fun b hb hb2 => by omega⟩ ?_ ?_
    · rintro n H1 hlt ⟨s1, bs, e1, hbl, hb1, hb2⟩
      refine ⟨hlt, ?_⟩
      rintro x H2 ⟨rfl, rfl⟩
      refine ⟨rfl, ?_⟩
      refine ⟨_, rfl, _, rfl, a, 1 + (n : Int), rfl, rfl, .inl ⟨by omega, by omega⟩, _, rfl, _, q, rfl, rfl, (by show 0 < q; omega), rfl, _, rfl, ?_⟩
      refine ite2 (fun e => ?_) (fun e => ?_)
      · have e' : a * (1 + (n : Int)) % q = 1 := V.int.inj (of_decide_eq_true e)
        refine ⟨_, rfl, _, e1, by rw [List.length_map]; exact small1000 (by omega), same_mut s1 hD, bs ++ [1 + (n : Int)], ?_, ?_, ?_, ?_⟩
        · rw [upd_same, List.map_append]
          rfl
        · rw [List.length_append, List.length_singleton]
          omega
        · intro b hb
          rcases List.mem_append.mp hb with z | z
          · exact hb1 b z
          · rw [List.mem_singleton.mp z]
            exact ⟨by omega, by omega, e'⟩
        · intro b hb hb3 hb4
          by_cases z : b < 1 + (n : Int)
          · exact List.mem_append_left _ (hb2 b hb z hb4)
          · have : b = 1 + (n : Int) := by omega
            rw [this]
            exact List.mem_append_right _ (List.mem_singleton.mpr rfl)
      · refine ⟨s1, bs, e1, by omega, hb1, fun b hb hb3 hb4 => ?_⟩
        by_cases z : b < 1 + (n : Int)
        · exact hb2 b hb z hb4
        · have : b = 1 + (n : Int) := by omega
          subst this
          exact absurd (decide_eq_true (congrArg V.int hb4)) e
    · rintro H1 ⟨s1, bs, e1, hbl, hb1, hb2⟩
      obtain ⟨b0, z0, z1, z2⟩ := inv_ex hq h0 h1
      have hm : b0 ∈ bs := hb2 b0 z0 (by omega) z2
      cases bs with
      | nil => cases hm
      | cons b r =>
        obtain ⟨y0, y1, y2⟩ := hb1 b List.mem_cons_self
        exact ⟨Nat.le_refl _, D, _, 0, .int b, rfl, rfl, SqL.of e1, atI_nat (j := 0) rfl, k b H1 y0 y1 y2 s1⟩
end
end K14
/-! D3 -/
set_option Elab.async false
set_option linter.all false
set_option maxRecDepth 100000
set_option maxHeartbeats 4000000
/-! D3: the class Sum. -/
namespace K14
open PySem PySem.Spec PyProof.Rows L2
section
variable {P : Program} {w : World} {K : PySem.W.Frag} {mg : Str → Option Value} {base : Heap} {CS CP AM : Addr}
def spSumInit (CS : Addr) : Sp := fun vs H Q _ => ∃ (p dx d : Addr) (q c : Int) (U : List Str) (kvs : List (Key × V)) (g : Str → Int), vs = [.ref p, .int q, .ref d, .int c] ∧ Qok q ∧ H p = some (.ins CS dx []) ∧ H d = some (.dK kvs) ∧ Tb U kvs g ∧ (∀ x, 0 ≤ g x ∧ g x < q) ∧ Uok U ∧
  0 ≤ c ∧ c < q ∧ ∀ H' d', SameB p H H' → H d' = none → H' p = some (.ins CS dx (sumF q d' c)) → H' d' = some (.dK (canon U g)) → Q .non H'
theorem ok_Sum_init (T : Tx K mg CS CP AM) {f : Addr} {fd : FuncData} (F : FunD K "__init__" "Sum.__init__" (defArgs st_Sum_init) (defBody st_Sum_init) (defScope st_Sum_init) [.int 0] [] f fd) : FnOk P w K mg base CX0 5 f fd ps_Sum_init (spSumInit CS) := by
  refine fnok_of F sc_Sum_init (fun vs H Q E h => ?_) (fun f cdv A outer s H vs Q E hr h => ?_)
  · obtain ⟨p, dx, d, q, c, U, kvs, g, rfl, _⟩ := h
    rfl
  · obtain ⟨p, dx, d, q, c, U, kvs, g, rfl, hq, hp, hd, t, rg, hU, hc0, hc1, k⟩ := h
    have hu := hu_of hr
    have npd : p ≠ d := ne_of hp hd (by intro z; cases z)
    have hlen : kvs.length ≤ 8 := Nat.le_succ_of_le (Nat.le_trans t.len hU.ln)
    have hks := t.names
    refine ⟨_, (pss_cons (ps_expr (pe_g (ok_want_modulus T) hr (by rfl) (pa_cons (pv 1) pa_nil)))
      (pss_cons (ps_if (pt_not (pt_val (pe_g (ok_is_world T) hr (by rfl) (pa_cons (pv 2) (pa_cons (pv 1) pa_nil))))) pss_never pss_nil)
      (pss_cons (ps_if (pt_not (pt_val (pe_g (ok_is_number T) hr (by rfl) (pa_cons (pv 3) (pa_cons (pv 1) pa_nil))))) pss_never pss_nil)
      (pss_cons (ps_fld (pv 0) (pv 1) rfl)
      (pss_cons (ps_fld (pv 0) (pe_dc (own := [("name", 4)]) rfl sc_Sum_init.nd (pi_list (pe_callB (call_sortedD rfl) (by rfl) T.n_sorted bo_sorted (pa_cons (pv 2) pa_nil))) (blkOk_by (N := N_Sum_init) (sc := defScope st_Sum_init) (by decide +kernel)) (fun _ _ _ _ _ => (pg_name (i := 4) sc_Sum_init.nd rfl (Or.inl rfl) (Or.inr rfl))) (fun _ _ _ _ _ => (pts_one (pt_cmpR op_ne (pe_dget hu (pv 2) (pv 4) (fun _ _ => rfl)) pe_int (nomark _)))) (fun _ _ _ _ _ => (pv 4)) (fun _ _ _ _ _ => (pe_dget hu (pv 2) (pv 4) (fun _ _ => rfl)))) rfl)
      (pss_one (ps_fld (pv 0) (pv 3) rfl))))))), ?_⟩
    -- want_modulus(modulus)
    refine ⟨_, rfl, q, rfl, hq, ?_⟩
    -- is_world
    refine ⟨_, rfl, _, rfl, d, q, kvs, rfl, hd, by omega, fun e he => ?_, fun H1 s1 => ⟨true, rfl, iteF ?_⟩⟩
    · obtain ⟨x, ex, hx⟩ := t.ks e he
      exact ⟨x, _, ex, hU.nm x hx, rg x⟩
    -- is_number
    refine ⟨_, rfl, _, rfl, c, q, rfl, hc0, hc1, true, rfl, iteF ?_⟩
    -- self.own_modulus = modulus
    refine ⟨_, rfl, _, rfl, p, CS, dx, [], rfl, s1 _ _ hp, T.c_Sum.cl, T.a_Sum_own_modulus, (by show 0 < 1000; decide), ?_⟩
    -- {name: weights[name] for name in sorted(weights) if weights[name] != 0}
    have hd2 : (upd H1 p (.ins CS dx (putF "own_modulus" (.int q) []))) d = some (.dK kvs) := by
      rw [upd_ne npd.symm]
      exact s1 _ _ hd
    refine ⟨_, rfl, d, kvs, tbK kvs, rfl, .inl hd2, hks, by rw [tbK_len hks]; omega, fun ys a hys hs ha => ?_⟩
    have npa : p ≠ a := ne_of_none (H := upd H1 p (.ins CS dx (putF "own_modulus" (.int q) []))) upd_same ha
    refine ⟨a, rfl, ⟨_, SqL.of upd_same⟩, fun D hD => ?_⟩
    have hysU : ys = U.filter (fun x => decide (x ∈ tbK kvs)) := sorted_is hys hs (tbK_nd hks t.nd) hU.so _ fun x => ⟨fun hx => ⟨?_, decide_eq_true hx⟩, fun hx => of_decide_eq_true hx.2⟩
    case refine_1 =>
      have hv := (tbK_mem hks).mp hx
      rcases t.get x with e | ⟨e, _⟩
      · obtain ⟨y, ey, hy⟩ := t.ks _ (valV_mem e)
        have h1 : (Sum.inr x : Key) = Sum.inr y := congrArg Prod.fst ey
        rw [Sum.inr.inj h1]
        exact hy
      · exact absurd e hv
    have hyn : ys.Nodup := hys.nodup_iff.mpr (tbK_nd hks t.nd)
    generalize hH3 : upd (upd H1 p (.ins CS dx (putF "own_modulus" (.int q) []))) a (.lst (ys.map V.str)) = H3 at hD ⊢
    have h3a : H3 a = some (.lst (ys.map V.str)) := by
      rw [← hH3]
      exact upd_same
    have h3p : H3 p = some (.ins CS dx (putF "own_modulus" (.int q) [])) := by
      rw [← hH3, upd_ne npa]
      exact upd_same
    have h3d : H3 d = some (.dK kvs) := by
      rw [← hH3, upd_ne (ne_of_none hd2 ha)]
      exact hd2
    refine dc_by ys.length (fun n H' => Same H3 H' ∧ H' D = some (.dK (canon (ys.take n) g))) ⟨same_new hD, upd_same⟩ ?_ ?_
    · rintro n H4 hlt ⟨s4, e4⟩
      have hyn4 : ys[n]? = some ys[n] := List.getElem?_eq_getElem hlt
      refine ⟨⟨_, V.str ys[n], SqL.of (s4 _ _ h3a), by rw [List.getElem?_map, hyn4]; rfl⟩, ?_⟩
      rintro x H5 ⟨rfl, hx⟩
      have hx := hx _ (SqL.of (s4 _ _ h3a))
      rw [List.getElem?_map, hyn4] at hx
      obtain rfl : V.str ys[n] = x := Option.some.inj hx
      have hmem : ys[n] ∈ tbK kvs := hys.mem_iff.mp (List.getElem_mem hlt)
      have hv : valV kvs (Sum.inr ys[n] : Key) = some (.int (g ys[n])) := by
        rcases t.get ys[n] with e | ⟨e, _⟩
        · exact e
        · exact absurd e ((tbK_mem hks).mp hmem)
      have hg : DGet H5 d (.str ys[n]) (some (.int (g ys[n]))) := .inl ⟨kvs, Sum.inr ys[n], .inl (s4 _ _ h3d), rfl, hv.symm⟩
      refine ⟨rfl, _, rfl, _, rfl, d, _, rfl, hg, rfl, _, rfl, ?_⟩
      have hcn : canon (ys.take (n + 1)) g = canon (ys.take n) g ++ (if g ys[n] ≠ 0 then [((Sum.inr ys[n] : Key), V.int (g ys[n]))] else []) := by
        unfold canon
        rw [take_snoc hyn4, List.filter_append, List.map_append]
        congr 1
        by_cases z : g ys[n] ≠ 0
        · rw [List.filter_cons, if_pos (decide_eq_true z), if_pos z]
          rfl
        · rw [List.filter_cons, if_neg (by simpa using z), if_neg z]
          rfl
      refine ite2 (fun e => ?_) (fun e => ?_)
      · have z : g ys[n] ≠ 0 := fun z => by
          rw [z] at e
          cases e
        refine ⟨_, rfl, _, rfl, _, rfl, d, _, rfl, hg, _, (Sum.inr ys[n] : Key), rfl, e4, ?_, same_mut s4 hD, ?_⟩
        · have h1 : (canon (ys.take n) g).length ≤ ys.length := by
            unfold canon
            rw [List.length_map]
            exact Nat.le_trans (List.length_filter_le _ _) (by rw [List.length_take]; omega)
          have h2 : ys.length ≤ 8 := by
            rw [hys.length_eq, tbK_len hks]
            exact hlen
          exact small1000 (by omega)
        · have hnew : valV (canon (ys.take n) g) (Sum.inr ys[n] : Key) = none := by
            cases e5 : valV (canon (ys.take n) g) (Sum.inr ys[n] : Key) with
            | none => rfl
            | some u =>
              have hm := valV_in e5
              rw [canon_keys] at hm
              obtain ⟨y, hy, ey⟩ := List.mem_map.mp hm
              have hy2 := (List.mem_filter.mp hy).1
              rw [Sum.inr.inj ey] at hy2
              obtain ⟨m, hm1, hm2⟩ := List.mem_iff_getElem.mp hy2
              rw [List.length_take] at hm1
              rw [List.getElem_take] at hm2
              have := (List.getElem_inj hyn).mp hm2
              omega
          rw [upd_same, putK_new _ hnew, hcn, if_pos z]
      · have z : ¬ g ys[n] ≠ 0 := fun z => e (by
          show (!decide (V.int (g ys[n]) = V.int 0)) = true
          rw [decide_eq_false fun y => z (V.int.inj y)]
          rfl)
        refine ⟨s4, ?_⟩
        rw [hcn, if_neg z, List.append_nil]
        exact e4
    · rintro H4 ⟨s4, e4⟩
      refine ⟨⟨_, SqL.of (s4 _ _ h3a), by rw [List.length_map]; exact Nat.le_refl _⟩, ?_⟩
      -- self.own_weights = ..; self.own_constant = constant
      refine ⟨_, rfl, p, CS, dx, _, rfl, s4 _ _ h3p, T.c_Sum.cl, T.a_Sum_own_weights, (by show 1 < 1000; decide), ?_⟩
      refine ⟨_, rfl, _, rfl, p, CS, dx, _, rfl, upd_same, T.c_Sum.cl, T.a_Sum_own_constant, (by show 2 < 1000; decide), ?_⟩
      have nDp : D ≠ p := (ne_of_none h3p hD).symm
      have hD1 : H1 D = none := by
        rw [← hH3] at hD
        by_cases z : D = a
        · rw [z, upd_same] at hD
          cases hD
        · rw [upd_ne z, upd_ne nDp] at hD
          exact hD
      refine k _ D (fun b o nb e => ?_) (s1.free hD1) upd_same ?_
      · rw [upd_ne nb, upd_ne nb]
        refine s4 _ _ ?_
        rw [← hH3]
        have e1 := s1 _ _ e
        have e2 : (upd H1 p (.ins CS dx (putF "own_modulus" (.int q) []))) b = some o := by
          rw [upd_ne nb]
          exact e1
        rw [upd_ne (ne_of_none e2 ha)]
        exact e2
      · rw [upd_ne nDp, upd_ne nDp, e4, List.take_length]
        congr 2
        unfold canon
        rw [hysU, List.filter_filter]
        congr 1
        refine List.filter_congr fun x hx => ?_
        by_cases z : g x ≠ 0
        · rw [decide_eq_true z]
          have : x ∈ tbK kvs := (tbK_mem hks).mpr fun e => z (t.out x e)
          rw [decide_eq_true this]
          rfl
        · rw [decide_eq_false z]
          rfl
end
end K14
/-! D4 -/
set_option Elab.async false
set_option linter.all false
set_option maxRecDepth 100000
set_option maxHeartbeats 4000000
/-! D4: Sum made; its properties and methods. -/
namespace K14
open PySem PySem.Spec PyProof.Rows L2
section
variable {P : Program} {w : World} {K : PySem.W.Frag} {mg : Str → Option Value} {base : Heap} {CS CP AM : Addr}
def spSum (CS : Addr) : Sp := fun vs H Q _ => ∃ (d : Addr) (q c : Int) (U : List Str) (kvs : List (Key × V)) (g : Str → Int), vs = [.int q, .ref d, .int c] ∧ Qok q ∧ H d = some (.dK kvs) ∧ Tb U kvs g ∧ (∀ x, 0 ≤ g x ∧ g x < q) ∧ Uok U ∧
  0 ≤ c ∧ c < q ∧ ∀ H' p, Same H H' → H p = none → SumAt CS H' p U q g c → Q (.ref p) H'
def spSum2 (CS : Addr) : Sp := fun vs H Q E => ∃ (d : Addr) (q : Int), vs = [.int q, .ref d] ∧ spSum CS [.int q, .ref d, .int 0] H Q E
theorem sum_made {vs : List V} {H : Hp} {Q : VK} {E : XK} (h : spSum CS vs H Q E) : mkSp CS (fun vs H Q E => spSumInit CS vs H Q E) vs H Q E := by
  obtain ⟨d, q, c, U, kvs, g, rfl, hq, hd, t, rg, hU, hc0, hc1, k⟩ := h
  intro x dx nx ndx ndxx
  have hd2 : (upd (upd H dx (.own x)) x (.ins CS dx [])) d = some (.dK kvs) := by
    rw [upd_ne (ne_of_none hd nx), upd_ne (ne_of_none hd ndx)]
    exact hd
  refine ⟨x, dx, d, q, c, U, kvs, g, rfl, hq, upd_same, hd2, t, rg, hU, hc0, hc1, fun H' d' s e0 e1 e2 => ⟨rfl, k H' x (fun b o e => ?_) nx ⟨⟨dx, d', e1, e2⟩, rg, fun y hy => t.off hy, hc0, hc1⟩⟩⟩
  refine s _ _ (ne_of_none e nx) ?_
  rw [upd_ne (ne_of_none e nx), upd_ne (ne_of_none e ndx)]
  exact e
theorem ok_Sum (T : Tx K mg CS CP AM) : GN P w K mg base 6 "Sum" (spSum CS) := by
  obtain ⟨f, fd, F, M⟩ := T.i_Sum
  obtain ⟨ds, hv, hb⟩ := F.binds1 (ps := ps_Sum_init) 4 1 (by simp) rfl (fun T kV doc pm an cdv ct us its h1 h2 => match us, its, h1, h2 with | [_, _, _, _], [_], _, _ => ⟨_, rfl, rfl⟩)
  have G := gc_make M (ok_Sum_init (P := P) (w := w) (base := base) T F) hb hv
  refine ⟨⟨.ref CS, T.c_Sum.g, T.c_Sum.kc, G.imp fun vs H Q h => ?_⟩⟩
  have h2 := sum_made h
  intro x dx nx ndx ndxx
  have h3 := h2 x dx nx ndx ndxx
  show spSumInit CS ((.ref x :: vs) ++ []) _ _ _
  rw [List.append_nil]
  exact h3
theorem ok_Sum2 (T : Tx K mg CS CP AM) : GN P w K mg base 6 "Sum" (spSum2 CS) := by
  obtain ⟨f, fd, F, M⟩ := T.i_Sum
  obtain ⟨ds, hv, hb⟩ := F.binds1 (ps := ps_Sum_init) 3 0 (by simp) rfl (fun T kV doc pm an cdv ct us its h1 h2 => match us, its, h1, h2 with | [_, _, _], [_], _, _ => ⟨_, rfl, rfl⟩)
  have G := gc_make M (ok_Sum_init (P := P) (w := w) (base := base) T F) hb hv
  refine ⟨⟨.ref CS, T.c_Sum.g, T.c_Sum.kc, G.imp fun vs H Q h => ?_⟩⟩
  obtain ⟨d, q, rfl, h⟩ := h
  exact sum_made h
/-! ### properties, methods -/
def spSumM (CS : Addr) : Sp := fun vs H Q _ => ∃ (a dx d : Addr) (q c : Int), vs = [.ref a] ∧ H a = some (.ins CS dx (sumF q d c)) ∧ Q (.int q) H
def spSumC (CS : Addr) : Sp := fun vs H Q _ => ∃ (a dx d : Addr) (q c : Int), vs = [.ref a] ∧ H a = some (.ins CS dx (sumF q d c)) ∧ Q (.int c) H
theorem ok_Sum_modulus (T : Tx K mg CS CP AM) : GP P w K mg base 1 CS "modulus" (spSumM CS) := by
  refine Pd.gp T.p_Sum_modulus sc_Sum_modulus (fun vs H Q E h => ?_) (fun _ _ _ _ _ _ us hl => match us, hl with | [_], _ => rfl) (fun f cdv A outer s H vs Q E hr h => ?_)
  · obtain ⟨a, dx, d, q, c, rfl, _⟩ := h
    rfl
  · obtain ⟨a, dx, d, q, c, rfl, ha, k⟩ := h
    refine ⟨_, (pss_one (ps_ret (pe_fld (pv 0) rfl))), ?_⟩
    exact ⟨_, rfl, a, CS, dx, _, _, rfl, ha, T.c_Sum.cl, T.a_Sum_own_modulus, sumF_m q d c, k⟩
theorem ok_Sum_constant (T : Tx K mg CS CP AM) : GP P w K mg base 1 CS "constant" (spSumC CS) := by
  refine Pd.gp T.p_Sum_constant sc_Sum_constant (fun vs H Q E h => ?_) (fun _ _ _ _ _ _ us hl => match us, hl with | [_], _ => rfl) (fun f cdv A outer s H vs Q E hr h => ?_)
  · obtain ⟨a, dx, d, q, c, rfl, _⟩ := h
    rfl
  · obtain ⟨a, dx, d, q, c, rfl, ha, k⟩ := h
    refine ⟨_, (pss_one (ps_ret (pe_fld (pv 0) rfl))), ?_⟩
    exact ⟨_, rfl, a, CS, dx, _, _, rfl, ha, T.c_Sum.cl, T.a_Sum_own_constant, sumF_c q d c, k⟩
def spSumNames (CS : Addr) : Sp := fun vs H Q _ => ∃ (a : Addr) (U : List Str) (q : Int) (g : Str → Int) (c : Int), vs = [.ref a] ∧ SumAt CS H a U q g c ∧ ∀ H' p, Same H H' → H p = none → H' p = some (.lst ((U.filter fun x => decide (g x ≠ 0)).map V.str)) → Q (.ref p) H'
theorem ok_Sum_names (T : Tx K mg CS CP AM) : GM P w K mg base 1 CS "names" (spSumNames CS) := by
  refine Md.gm T.m_Sum_names sc_Sum_names (fun vs H Q E h => ?_) (fun _ _ _ _ _ _ us hl => match us, hl with | [_], _ => rfl) (fun f cdv A outer s H vs Q E hr h => ?_)
  · obtain ⟨a, U, q, g, c, rfl, _⟩ := h
    rfl
  · obtain ⟨a, U, q, g, c, rfl, S, k⟩ := h
    obtain ⟨dx, d, ha, hd⟩ := S.ex
    refine ⟨_, (pss_one (ps_ret (pe_callTy (call_listD rfl) (by rfl) T.n_list bo_list (pa_cons (pe_fld (pv 0) rfl) pa_nil)))), ?_⟩
    refine ⟨_, rfl, a, CS, dx, _, _, rfl, ha, T.c_Sum.cl, T.a_Sum_own_weights, sumF_w q d c, d, _, rfl, .inl hd, fun p hp => k _ p (same_new hp) hp ?_⟩
    rw [upd_same]
    unfold canon
    rw [List.map_map]
    rfl
def spSumWeight (CS : Addr) : Sp := fun vs H Q _ => ∃ (a : Addr) (U : List Str) (q : Int) (g : Str → Int) (c : Int) (x : Str), vs = [.ref a, .str x] ∧ SumAt CS H a U q g c ∧ U.Nodup ∧ Q (.int (g x)) H
theorem ok_Sum_weight (T : Tx K mg CS CP AM) : GM P w K mg base 1 CS "weight" (spSumWeight CS) := by
  refine Md.gm T.m_Sum_weight sc_Sum_weight (fun vs H Q E h => ?_) (fun _ _ _ _ _ _ us hl => match us, hl with | [_, _], _ => rfl) (fun f cdv A outer s H vs Q E hr h => ?_)
  · obtain ⟨a, U, q, g, c, x, rfl, _⟩ := h
    rfl
  · obtain ⟨a, U, q, g, c, x, rfl, S, nd, k⟩ := h
    obtain ⟨dx, d, ha, hd⟩ := S.ex
    have hu := hu_of hr
    refine ⟨_, (pss_one (ps_ret (pe_ifExp (pt_val (pe_callB call_isi (by rfl) T.n_isinstance bo_isinstance (pa_cons (pv 1) (pa_cons (pe_ty bo_str (by rfl) T.n_str) pa_nil)))) (pe_dget2 hu (pe_fld (pv 0) rfl) (pv 1) pe_int ⟨rfl, rfl, rfl, rfl⟩) pe_int))), ?_⟩
    refine ⟨_, rfl, _, _, _, _, true, rfl, .ty _, .base (.str x), kit_ty (by decide +kernel), true, rfl, iteT ?_⟩
    refine ⟨_, rfl, a, CS, dx, _, _, rfl, ha, T.c_Sum.cl, T.a_Sum_own_weights, sumF_w q d c, d, rfl, .inl ⟨_, .inl hd⟩, _, rfl, _, .inl ⟨_, Sum.inr x, .inl hd, rfl, rfl⟩, ?_⟩
    have R : Rw U q (canon U g) g := canon_rw nd (fun _ h => h) S.rg S.sup
    rw [R.at_ x]
    by_cases z : g x = 0
    · rw [if_pos z]
      rw [z] at k
      exact k
    · rw [if_neg z]
      exact k
/-- two Sums that are equal -/
def SumEq (CS : Addr) : Addr → Addr → Hp → Prop := fun a b H => ∃ (U : List Str) (q : Int) (g : Str → Int) (c : Int), U.Nodup ∧ SumAt CS H a U q g c ∧ SumAt CS H b U q g c
theorem ok_Sum_eq (T : Tx K mg CS CP AM) {f : Addr} (F : Md K CS "__eq__" "Sum.__eq__" st_Sum_eq f) : ∃ fd, FnOk P w K mg base CX0 1 f fd ps_Sum_eq (spEq (SumEq CS)) ∧ Binds K fd ps_Sum_eq [] := by
  obtain ⟨fd, FD⟩ := F.d
  refine ⟨fd, fnok_of FD sc_Sum_eq (fun vs H Q E h => ?_) (fun f cdv A outer s H vs Q E hr h => ?_), FD.bindsN (fun _ _ _ _ _ _ us hl => match us, hl with | [_, _], _ => rfl)⟩
  · obtain ⟨a, b, rfl, _⟩ := h
    rfl
  · obtain ⟨a, b, rfl, ⟨U, q, g, c, nd, S1, S2⟩, k⟩ := h
    obtain ⟨dx, d, ha, hd⟩ := S1.ex
    obtain ⟨dy, e, hb, he⟩ := S2.ex
    have hu := hu_of hr
    have hu0 := Nat.lt_of_succ_lt hu
    refine ⟨_, (pss_cons (ps_if (PW.pt (pw_or (pt_not (pt_val (pe_callB call_isi (by rfl) T.n_isinstance bo_isinstance (pa_cons (pv 1) (pa_cons (pe_gref (by rfl) T.c_Sum.g) pa_nil))))) (pw_or1 (pt_cmpR op_ne (pe_fld (pv 1) rfl) (pe_fld (pv 0) rfl) (nomark _))))) (pss_one (ps_ret pe_bl)) pss_nil)
      (pss_one (ps_ret (pe_and (pe_cmpR (op_eq_dictA hu0) (pe_fld (pv 1) rfl) (pe_fld (pv 0) rfl) (nomark _)) (pe_one (pe_cmpR op_eq (pe_fld (pv 1) rfl) (pe_fld (pv 0) rfl) (nomark _))))))), ?_⟩
    refine ⟨_, rfl, _, _, _, _, true, rfl, .own CS, tyOf_S T hb, T.k_SS, true, rfl, iteF ?_⟩
    refine ⟨_, rfl, b, CS, dy, _, _, rfl, hb, T.c_Sum.cl, T.a_Sum_own_modulus, sumF_m q e c, _, rfl, a, CS, dx, _, _, rfl, ha, T.c_Sum.cl, T.a_Sum_own_modulus, sumF_m q d c, rfl, false, ?_, iteF ?_⟩
    · rw [decide_eq_true rfl]
      rfl
    have R : Rw U q (canon U g) g := canon_rw nd (fun _ h => h) S1.rg S1.sup
    refine ⟨_, rfl, b, CS, dy, _, _, rfl, hb, T.c_Sum.cl, T.a_Sum_own_weights, sumF_w q e c, _, rfl, a, CS, dx, _, _, rfl, ha, T.c_Sum.cl, T.a_Sum_own_weights, sumF_w q d c,
      e, d, _, _, rfl, rfl, he, hd, rfl, fun p hp => ?_, true, rfl, iteT ?_⟩
    · obtain ⟨x, ex, _⟩ := R.ks p hp
      have : valV (canon U g) p.1 = some p.2 := valV_of_mem R.nd hp
      refine ⟨this, ?_⟩
      rw [ex]
      rfl
    refine ⟨_, rfl, b, CS, dy, _, _, rfl, hb, T.c_Sum.cl, T.a_Sum_own_constant, sumF_c q e c, _, rfl, a, CS, dx, _, _, rfl, ha, T.c_Sum.cl, T.a_Sum_own_constant, sumF_c q d c, rfl, ?_⟩
    rw [decide_eq_true rfl]
    exact k H Ext.rfl'
end
end K14
/-! R2 -/
set_option Elab.async false
set_option linter.all false
set_option maxRecDepth 100000
set_option maxHeartbeats 4000000
/-! R2: name = {..} on one line, the name a local. -/
namespace K14
open PySem PySem.Spec PyProof.Rows L2
section
variable {X : Cx}
theorem ps_setDc {i : Nat} {y : Str} {py : Pos} {kx vx tg iter : Expr} {ifs : List Expr} {scope : Scope} {own : List (Str × Nat)} {pos spos : Pos} {wi : TI} {g : TG} {tt : TT} {tk tv : TE} (hc : X.calm = true) (hN : X.N.Nodup) (hy : X.N[i]? = some y) (hyl : X.env.scope.names.lookup y = some .local)
    (hsw : swapsWith (.DictComp kx vx [⟨tg, iter, ifs, 0⟩] scope pos) (some (.Name y py)) spos.line X.env = pure true) (hi : PI X tg iter wi) (ok : BlkOk X.N X.env.scope scope own)
    (hg : ∀ (s : Shared) (H : Hp) (C : Addr) (cl : List (Str × Addr)) (fp : List Addr), PG (X.blk s H scope (compEnvC scope cl C X.env) fp) tg g) (ht : ∀ (s : Shared) (H : Hp) (C : Addr) (cl : List (Str × Addr)) (fp : List Addr), PTs (X.blk s H scope (compEnvC scope cl C X.env) fp) ifs tt)
    (hk : ∀ (s : Shared) (H : Hp) (C : Addr) (cl : List (Str × Addr)) (fp : List Addr), PE (X.blk s H scope (compEnvC scope cl C X.env) fp) kx tk)
    (he : ∀ (s : Shared) (H : Hp) (C : Addr) (cl : List (Str × Addr)) (fp : List Addr), PE (X.blk s H scope (compEnvC scope cl C X.env) fp) vx tv) (hs : ∀ x, foldedSetIterable iter X.env x = pure x := by intro _; rfl) :
    PS X (.Assign [.Name y py] (.DictComp kx vx [⟨tg, iter, ifs, 0⟩] scope pos) spos) (tAsg (tDc wi g tt tk tv (own.map (·.2))) (gName i)) := by
  refine ⟨fun pins s σ H D I h => ?_⟩
  rw [exec_Assign_Name_used _ _ _ _ hsw]
  refine wpAny_bind (wpAny_standAt (wpAny_bind ?_))
  show wpAny _ X.A (do let _ ← comprehension (.DictComp kx vx [⟨tg, iter, ifs, 0⟩] scope pos) scope X.env (firstIterPos [⟨tg, iter, ifs, 0⟩] pos) newDict false (eval iter X.env) (some (assign (.Name y py) X.env))) _ _ s
  have h : tDc wi g tt tk tv (own.map (·.2)) σ H (fun x H1 => gName i x σ H1 D.nx) := h
  refine wpAny_bind (thn (dc_core (Qf := fun _ s' => SP X pins D .next s') hc hN I hi ok hg ht hk he hs h fun L C s' m H' I' q hn f => ?_) fun _ s' hq => wpAny_pure (wpAny_pure hq))
  show wpAny _ _ (assign (.Name y py) X.env (.ref L)) _ _ _
  refine wpAny_assign_Name (store_ok2 (v := V.ref L) I' hN hy (.inl hyl) rfl (fun s2 I2 ⟨a, sb, ha⟩ => ?_) (.inr hyl))
  obtain ⟨f0, f1, f2, f3, f4, f5⟩ := f
  have haC : C ≠ a := by
    rcases ha with z | z
    · rw [z]; exact f1
    · exact fun e => f4 y a z e.symm
  refine ⟨m, hn.sameBut sb haC, fun h3 sb3 => ?_⟩
  exact ⟨_, H', I2.turned (t' := s2.toks) (fun b o hb e => (sb3.2 b hb).trans e) f0 f1 f3 f4 f5, q⟩
theorem swD_true {kx vx : Expr} {gs : List Comprehension} {scope : Scope} {pos py : Pos} {y : Str} {l : Nat} {env : Env} (hk : env.scope.kind = .function) (hy : env.scope.names.lookup y = some .local) (hl : (py.line == pos.line) = true)
    (ha : (scope.names.any fun (n, k) => n == y && (k == .local || k == .cell)) = false) : swapsWith (.DictComp kx vx gs scope pos) (some (.Name y py)) l env = pure true := by
  have ky : env.kindOf y = some .local := hy
  have hb : env.blockKind = .function := by unfold Env.blockKind; rw [hk]; rfl
  unfold swapsWith
  simp only [hb, ky, ha, Expr.pos, hl]
  rfl
end
end K14
/-! M1 -/
set_option Elab.async false
set_option linter.all false
set_option maxRecDepth 100000
set_option maxHeartbeats 4000000
/-! M1: rows as functions: a row less a multiple, a row reduced. -/
namespace K14
open PySem
def rowSub (q : Int) (f g : Str → Int) (c : Int) : Str → Int := fun x => (f x - g x * c) % q
abbrev Bs := List (Str × (Str → Int))
def red (q : Int) (f : Str → Int) (B : Bs) : Str → Int := B.foldl (fun acc p => if f p.1 ≠ 0 then rowSub q acc p.2 (f p.1) else acc) f
/-- a row without its constant -/
def noC (f : Str → Int) : Str → Int := fun x => if x = "" then 0 else f x
/-- a sum's row -/
def withC (f : Str → Int) (c : Int) : Str → Int := fun x => if x = "" then c else f x
end K14
/-! D5 -/
set_option Elab.async false
set_option linter.all false
set_option maxRecDepth 100000
set_option maxHeartbeats 4000000
/-! D5: rows: made of sums, made sums, without a constant, less a multiple, reduced. -/
namespace K14
open PySem PySem.Spec PyProof.Rows L2
theorem Tb.getD {W : List Str} {kvs : List (Key × V)} {g : Str → Int} (t : Tb W kvs g) (x : Str) : (valV kvs (Sum.inr x : Key)).getD (.int 0) = .int (g x) := by
  rcases t.get x with e | ⟨e, e0⟩
  · rw [e]
    rfl
  · rw [e, e0]
    rfl
section
variable {P : Program} {w : World} {K : PySem.W.Frag} {mg : Str → Option Value} {base : Heap} {CS CP AM : Addr}
def spWithout : Sp := fun vs H Q _ => ∃ (d : Addr) (W : List Str) (q : Int) (f : Str → Int), vs = [.ref d] ∧ RowAt W q H d f ∧ W.length ≤ 1000 ∧ ∀ H' d', Same H H' → H d' = none → RowAt W q H' d' (noC f) → Q (.ref d') H'
theorem ok_without_constant (T : Tx K mg CS CP AM) : GN P w K mg base 1 "without_constant" spWithout := by
  refine Fd.gn T.f_without_constant sc_without_constant (fun vs H Q E h => ?_) (fun _ _ _ _ _ _ us hl => match us, hl with | [_], _ => rfl) (fun f cdv A outer s H vs Q E hr h => ?_)
  · obtain ⟨d, W, q, f, rfl, _⟩ := h
    rfl
  · obtain ⟨d, W, q, f, rfl, ⟨kvs, hd, R⟩, hW, k⟩ := h
    refine ⟨_, (pss_one (ps_ret (pe_lock (pe_dc (own := [("name", 1), ("weight", 2)]) rfl sc_without_constant.nd (pi_items (pv 0)) (blkOk_by (N := N_without_constant) (sc := defScope st_without_constant) (by decide +kernel)) (fun _ _ _ _ _ => (pg_tup' (K := K) 2 (pgs_cons (pg_name (i := 1) sc_without_constant.nd rfl (Or.inl rfl) (Or.inr rfl)) (pgs_cons (pg_name (i := 2) sc_without_constant.nd rfl (Or.inl rfl) (Or.inr rfl)) pgs_nil)))) (fun _ _ _ _ _ => (pts_one (pt_cmpR op_ne (pv 1) (pe_gstr (by rfl) T.g_CONSTANT) (nomark _)))) (fun _ _ _ _ _ => (pv 1)) (fun _ _ _ _ _ => (pv 2)))))), ?_⟩
    refine dcF (fun x _ => decide (x ≠ "")) hd R.toTb hW (fun H' R h => ⟨_, rfl, h⟩) (fun _ _ => rfl) (fun _ _ => rfl) (fun _ _ => rfl) (fun x v H' R hx h => ?_) (fun D H' s hD e => k H' D s hD ⟨_, e, ?_⟩)
    · refine ⟨_, rfl, rfl, _, rfl, ?_⟩
      have : (!decide (V.str x = V.str "")) = decide (x ≠ "") := by
        by_cases z : x = ""
        · rw [decide_eq_true (by rw [z]), decide_eq_false (fun n => n z)]
          rfl
        · rw [decide_eq_false fun y => z (V.str.inj y), decide_eq_true z]
          rfl
      rw [this]
      exact h
    · have hq : 0 < q := by
        have := R.rg ""
        omega
      refine R.toTb.filter _ _ q (fun x => ?_) (fun x hp hv => R.nz x hv) (fun x => ?_)
      · unfold noC
        by_cases z : x = ""
        · rw [if_pos z, if_neg (by rw [decide_eq_false (fun n => n z)]; exact Bool.false_ne_true)]
        · rw [if_neg z, if_pos (decide_eq_true z)]
      · unfold noC
        split
        · exact ⟨Int.le_refl _, hq⟩
        · exact R.rg x
def spRowOf (CS : Addr) : Sp := fun vs H Q _ => ∃ (p : Addr) (W U : List Str) (q : Int) (g : Str → Int) (c : Int), vs = [.ref p] ∧ SumAt CS H p U q g c ∧ U.Nodup ∧ ("" : Str) ∉ U ∧ (∀ x ∈ U, x ∈ W) ∧ ("" : Str) ∈ W ∧ U.length ≤ 1000 ∧
  ∀ H' d, Same H H' → H d = none → RowAt W q H' d (withC g c) → Q (.ref d) H'
theorem ok_row_of (T : Tx K mg CS CP AM) : GN P w K mg base 1 "row_of" (spRowOf CS) := by
  refine Fd.gn T.f_row_of sc_row_of (fun vs H Q E h => ?_) (fun _ _ _ _ _ _ us hl => match us, hl with | [_], _ => rfl) (fun f cdv A outer s H vs Q E hr h => ?_)
  · obtain ⟨p, W, U, q, g, c, rfl, _⟩ := h
    rfl
  · obtain ⟨p, W, U, q, g, c, rfl, S, nd, nU, sub, hW, hl, k⟩ := h
    obtain ⟨dx, d, hp, hd⟩ := S.ex
    have hu := hu_of hr
    have R : Rw W q (canon U g) g := canon_rw nd sub S.rg S.sup
    have g0 : g "" = 0 := S.sup _ nU
    refine ⟨_, (pss_cons (ps_set (i := 1) sc_row_of.nd rfl (Or.inl rfl) (pe_callTy call_dictD (by rfl) T.n_dict bo_dict (pa_cons (pe_fld (pv 0) rfl) pa_nil)))
      (pss_cons (ps_if (pt_cmpR op_ne (pe_fld (pv 0) rfl) pe_int (nomark _)) (pss_one (ps_dput hu (pv 1) (pe_gstr (by rfl) T.g_CONSTANT) (pe_fld (pv 0) rfl) rfl)) pss_nil)
      (pss_one (ps_ret (pv 1))))), ?_⟩
    refine ⟨_, rfl, p, CS, dx, _, _, rfl, hp, T.c_Sum.cl, T.a_Sum_own_weights, sumF_w q d c, d, _, rfl, .inl hd, fun F hF => ?_⟩
    have hp1 : (upd H F (.dK (canon U g))) p = some (.ins CS dx (sumF q d c)) := by
      rw [upd_ne (ne_of_none hp hF)]
      exact hp
    refine ⟨_, rfl, p, CS, dx, _, _, rfl, hp1, T.c_Sum.cl, T.a_Sum_own_constant, sumF_c q d c, rfl, _, rfl, ?_⟩
    have rgw : ∀ x, 0 ≤ withC g c x ∧ withC g c x < q := fun x => by
      unfold withC
      split
      · exact S.cr
      · exact S.rg x
    refine ite2 (fun e => ?_) (fun e => ?_)
    · have hc : c ≠ 0 := fun z => by
        rw [z] at e
        cases e
      refine ⟨_, rfl, p, CS, dx, _, _, rfl, hp1, T.c_Sum.cl, T.a_Sum_own_constant, sumF_c q d c, _, rfl, F, _, rfl, DPut.k (k := (Sum.inr "" : Key)) upd_same (small1000 (Nat.le_trans (by unfold canon; rw [List.length_map]; exact List.length_filter_le _ _) hl)), ?_⟩
      refine ⟨_, rfl, k _ F (same_mut (same_new hF) hF) hF ⟨_, upd_same, ?_⟩⟩
      have t2 : Tb W (putK (canon U g) (Sum.inr "" : Key) (.int c)) (withC g c) := (R.toTb.put hW c).eq fun x => rfl
      refine ⟨t2, fun x hx => ?_, rgw⟩
      rw [valV_put] at hx
      unfold withC
      by_cases z : x = ""
      · rw [if_pos z]
        exact hc
      · rw [if_neg z]
        rw [if_neg fun y => z (Sum.inr.inj y)] at hx
        exact R.nz x hx
    · have hc : c = 0 := Decidable.byContradiction fun z => e (by
        show (!decide (V.int c = V.int 0)) = true
        rw [decide_eq_false fun y => z (V.int.inj y)]
        rfl)
      refine ⟨_, rfl, k _ F (same_new hF) hF ⟨_, upd_same, R.eq fun x => ?_⟩⟩
      unfold withC
      by_cases z : x = ""
      · rw [if_pos z, z, g0, hc]
      · rw [if_neg z]
def spSumOf (CS : Addr) : Sp := fun vs H Q _ => ∃ (d : Addr) (W U : List Str) (q : Int) (f : Str → Int), vs = [.ref d, .int q] ∧ Qok q ∧ RowAt W q H d f ∧ W.length ≤ 1000 ∧ Uok U ∧ (∀ x, f x ≠ 0 → x = "" ∨ x ∈ U) ∧
  ∀ H' p, Same H H' → H p = none → SumAt CS H' p U q (noC f) (f "") → Q (.ref p) H'
theorem ok_sum_of (T : Tx K mg CS CP AM) : GN P w K mg base 7 "sum_of" (spSumOf CS) := by
  refine Fd.gn T.f_sum_of sc_sum_of (fun vs H Q E h => ?_) (fun _ _ _ _ _ _ us hl => match us, hl with | [_, _], _ => rfl) (fun f cdv A outer s H vs Q E hr h => ?_)
  · obtain ⟨d, W, U, q, f, rfl, _⟩ := h
    rfl
  · obtain ⟨d, W, U, q, f, rfl, hq, ⟨kvs, hd, R⟩, hW, hU, sup, k⟩ := h
    have hu := hu_of hr
    refine ⟨_, (pss_cons (ps_lock (ps_setDc (i := 2) (own := [("name", 3), ("weight", 4)]) rfl sc_sum_of.nd rfl rfl (swD_true rfl rfl rfl (by decide +kernel)) (pi_items (pv 0)) (blkOk_by (N := N_sum_of) (sc := defScope st_sum_of) (by decide +kernel)) (fun _ _ _ _ _ => (pg_tup' (K := K) 2 (pgs_cons (pg_name (i := 3) sc_sum_of.nd rfl (Or.inl rfl) (Or.inr rfl)) (pgs_cons (pg_name (i := 4) sc_sum_of.nd rfl (Or.inl rfl) (Or.inr rfl)) pgs_nil)))) (fun _ _ _ _ _ => (pts_one (pt_cmpR op_ne (pv 3) (pe_gstr (by rfl) T.g_CONSTANT) (nomark _)))) (fun _ _ _ _ _ => (pv 3)) (fun _ _ _ _ _ => (pv 4))))
      (pss_one (ps_ret (pe_g (ok_Sum T) hr (by rfl) (pa_cons (pv 1) (pa_cons (pv 2) (pa_cons (pe_dget2 hu (pv 0) (pe_gstr (by rfl) T.g_CONSTANT) pe_int ⟨rfl, rfl, rfl, rfl⟩) pa_nil))))))), ?_⟩
    refine dcF (Q := fun v H' => _) (fun x _ => decide (x ≠ "")) hd R.toTb hW (fun H' R h => ⟨_, rfl, h⟩) (fun _ _ => rfl) (fun _ _ => rfl) (fun _ _ => rfl) (fun x v H' R hx h => ?_) (fun D H' s hD e => ?_)
    · refine ⟨_, rfl, rfl, _, rfl, ?_⟩
      have : (!decide (V.str x = V.str "")) = decide (x ≠ "") := by
        by_cases z : x = ""
        · rw [decide_eq_true (by rw [z]), decide_eq_false (fun n => n z)]
          rfl
        · rw [decide_eq_false fun y => z (V.str.inj y), decide_eq_true z]
          rfl
      rw [this]
      exact h
    · have hqp : 0 < q := by
        have := R.rg ""
        omega
      have rgn : ∀ x, 0 ≤ noC f x ∧ noC f x < q := fun x => by
        unfold noC
        split
        · exact ⟨Int.le_refl _, hqp⟩
        · exact R.rg x
      have R2 : Rw W q (kvs.filter (pss fun x _ => decide (x ≠ ""))) (noC f) := R.toTb.filter _ _ q (fun x => by
        unfold noC
        by_cases z : x = ""
        · rw [if_pos z, if_neg (by rw [decide_eq_false (fun n => n z)]; exact Bool.false_ne_true)]
        · rw [if_neg z, if_pos (decide_eq_true z)]) (fun x hp hv => R.nz x hv) rgn
      have t3 : Tb U (kvs.filter (pss fun x _ => decide (x ≠ ""))) (noC f) := by
        refine ⟨R2.nd, fun p hp => ?_, R2.out⟩
        obtain ⟨x, ex, _⟩ := R2.ks p hp
        refine ⟨x, ex, ?_⟩
        have hv : valV (kvs.filter (pss fun x _ => decide (x ≠ ""))) (Sum.inr x : Key) ≠ none := by
          rw [valV_of_mem R2.nd (k := (Sum.inr x : Key)) (v := V.int (noC f x)) (by rw [← ex]; exact hp)]
          exact fun z => nomatch z
        have h1 := R2.nz x hv
        unfold noC at h1
        by_cases z : x = ""
        · rw [if_pos z] at h1
          exact absurd rfl h1
        · rw [if_neg z] at h1
          exact (sup x h1).resolve_left z
      have hc := R.rg ""
      refine ⟨_, rfl, _, rfl, _, rfl, d, rfl, .inl ⟨_, .inl (s _ _ hd)⟩, _, .inl ⟨kvs, Sum.inr "", .inl (s _ _ hd), rfl, rfl⟩, ?_⟩
      rw [R.toTb.getD ""]
      exact ⟨D, q, f "", U, _, _, rfl, hq, e, t3, rgn, hU, hc.1, hc.2, fun H2 p s2 hp2 S => k H2 p (s.trans s2) (s.free hp2) S⟩
end
end K14
/-! D6 -/
set_option Elab.async false
set_option linter.all false
set_option maxRecDepth 100000
set_option maxHeartbeats 4000000
/-! D6: row_less, row_reduced. -/
namespace K14
open PySem PySem.Spec PyProof.Rows L2
def bs (L : Ld) : Bs := L.map fun p => (p.1, p.2.2)
theorem red_snoc (q : Int) (f : Str → Int) (B : Bs) (p : Str × (Str → Int)) : red q f (B ++ [p]) = if f p.1 ≠ 0 then rowSub q (red q f B) p.2 (f p.1) else red q f B := by
  unfold red
  rw [List.foldl_append]
  rfl
section
variable {P : Program} {w : World} {K : PySem.W.Frag} {mg : Str → Option Value} {base : Heap} {CS CP AM : Addr}
def spRowLess : Sp := fun vs H Q _ => ∃ (a b : Addr) (c q : Int) (W : List Str) (f g : Str → Int), vs = [.ref a, .ref b, .int c, .int q] ∧ RowAt W q H a f ∧ RowAt W q H b g ∧ W.length ≤ 1000 ∧ 0 < q ∧ q < 100 ∧
  ∀ H' d, Same H H' → H d = none → RowAt W q H' d (rowSub q f g c) → Q (.ref d) H'
theorem ok_row_less (T : Tx K mg CS CP AM) : GN P w K mg base 1 "row_less" spRowLess := by
  refine Fd.gn T.f_row_less sc_row_less (fun vs H Q E h => ?_) (fun _ _ _ _ _ _ us hl => match us, hl with | [_, _, _, _], _ => rfl) (fun f cdv A outer s H vs Q E hr h => ?_)
  · obtain ⟨a, b, c, q, W, f, g, rfl, _⟩ := h
    rfl
  · obtain ⟨a, b, c, q, W, f, g, rfl, ⟨ka, ha, Ra⟩, ⟨kb, hb, Rb⟩, hW, hq, hq2, k⟩ := h
    have hu := hu_of hr
    refine ⟨_, (pss_cons (ps_set (i := 4) sc_row_less.nd rfl (Or.inl rfl) (pe_callTy call_dictD (by rfl) T.n_dict bo_dict (pa_cons (pv 0) pa_nil)))
      (pss_cons (ps_lock (ps_for PassesOwn.never rfl (pi_items (pv 1)) (pg_tup rfl (pgs_cons (pg_name (i := 5) sc_row_less.nd rfl (Or.inl rfl) (Or.inr rfl)) (pgs_cons (pg_name (i := 6) sc_row_less.nd rfl (Or.inl rfl) (Or.inr rfl)) pgs_nil))) (pss_one (ps_dput hu (pv 4) (pv 5) (pe_op op_mod (pe_op op_sub (pe_dget2 hu (pv 4) (pv 5) pe_int ⟨rfl, rfl, rfl, rfl⟩) (pe_op op_mul (pv 6) (pv 2))) (pv 3)) rfl))))
      (pss_one (ps_ret (pe_lock (pe_dc (own := [("name", 5), ("weight", 6)]) rfl sc_row_less.nd (pi_items (pv 4)) (blkOk_by (N := N_row_less) (sc := defScope st_row_less) (by decide +kernel)) (fun _ _ _ _ _ => (pg_tup' (K := K) 2 (pgs_cons (pg_name (i := 5) sc_row_less.nd rfl (Or.inl rfl) (Or.inr rfl)) (pgs_cons (pg_name (i := 6) sc_row_less.nd rfl (Or.inl rfl) (Or.inr rfl)) pgs_nil)))) (fun _ _ _ _ _ => (pts_one (pt_cmpR op_ne (pv 6) pe_int (nomark _)))) (fun _ _ _ _ _ => (pv 5)) (fun _ _ _ _ _ => (pv 6)))))))), ?_⟩
    -- found = dict(row)
    refine ⟨_, rfl, a, _, rfl, .inl ha, fun F hF => ?_⟩
    have nbF : b ≠ F := ne_of_none hb hF
    -- for name, weight in other.items()
    refine ⟨b, .dK kb, by rw [upd_ne nbF]; exact hb, trivial, fun od => ?_⟩
    refine ⟨_, rfl, b, od, kb, rfl, upd_same, ?_⟩
    refine for_by kb.length (fun n σ H' => ∃ v5 v6 kvs h, σ = [some (.ref a), some (.ref b), some (.int c), some (.int q), some (.ref F), v5, v6] ∧ SameB F (upd (upd H F (.dK ka)) b (.frz od (.dK kb))) H' ∧ H' F = some (.dK kvs) ∧ Tb W kvs h ∧
      ∀ x, h x = if (valV (kb.take n) (Sum.inr x : Key)).isSome = true then (f x - g x * c) % q else f x) ⟨none, none, ka, f, rfl, SameB.refl _, by rw [upd_ne nbF.symm]; exact upd_same, Ra.toTb, fun x => rfl⟩ ?_ ?_
    · rintro n σ H1 hlt ⟨v5, v6, kvs, h, rfl, s1, e1, t1, eh⟩
      refine ⟨⟨s1 _ _ nbF upd_same, hlt⟩, ?_⟩
      rintro x H2 ⟨t, key, v, hkv, rfl, ht, rfl⟩
      obtain ⟨y, ey, hyW⟩ := Rb.ks _ (List.mem_of_getElem? hkv)
      obtain ⟨rfl, rfl⟩ : key = (Sum.inr y : Key) ∧ v = V.int (g y) := ⟨congrArg Prod.fst ey, congrArg Prod.snd ey⟩
      have nFt : F ≠ t := ne_of_none e1 ht
      have e2 : (upd H1 t (.tup [.str y, .int (g y)])) F = some (.dK kvs) := by
        rw [upd_ne nFt]
        exact e1
      refine ⟨t, [.str y, .int (g y)], rfl, .inl (.inl upd_same), rfl, _, _, rfl, _, _, rfl, rfl, ?_⟩
      -- found[name] = (found.get(name, 0) - weight * factor) % modulus
      refine ⟨_, rfl, F, rfl, .inl ⟨_, .inl e2⟩, _, rfl, _, .inl ⟨kvs, Sum.inr y, .inl e2, rfl, rfl⟩, ?_⟩
      rw [t1.getD y]
      have rg := Rb.rg y
      refine ⟨_, rfl, _, rfl, g y, c, rfl, rfl, .inl ⟨by omega, by omega⟩, h y, g y * c, rfl, rfl, _, rfl, _, q, rfl, rfl, hq, ?_⟩
      refine ⟨_, rfl, _, rfl, F, _, rfl, DPut.k (k := (Sum.inr y : Key)) e2 (small1000 (Nat.le_trans t1.len hW)), ?_⟩
      refine ⟨_, _, _, _, rfl, fun z o nz e => ?_, upd_same, t1.put hyW _, fun x => ?_⟩
      · have e3 := s1 z o nz e
        rw [upd_ne nz, upd_ne (ne_of_none e3 ht)]
        exact e3
      · have hnm : valV (kb.take n) (Sum.inr y : Key) = none := by
          cases e : valV (kb.take n) (Sum.inr y : Key) with
          | none => rfl
          | some u =>
            obtain ⟨m, hm1, hm2⟩ := List.mem_iff_getElem.mp (valV_mem e)
            rw [List.length_take] at hm1
            have hmn : m < n := by omega
            have hml : m < kb.length := by omega
            rw [List.getElem_take] at hm2
            have e1' : (kb.map (·.1))[m]? = some (Sum.inr y : Key) := by
              rw [List.getElem?_map, List.getElem?_eq_getElem hml, hm2]
              rfl
            have e2' : (kb.map (·.1))[n]? = some (Sum.inr y : Key) := by
              rw [List.getElem?_map, hkv]
              rfl
            exact absurd (nd_ix Rb.nd e1' e2') (by omega)
        rw [take_snoc hkv, valV_snoc _ _ _ _ hnm]
        by_cases z : x = y
        · subst z
          rw [if_pos rfl, if_pos rfl, eh x, hnm]
          rfl
        · rw [if_neg z, if_neg fun m => z (Sum.inr.inj m)]
          exact eh x
    · rintro σ H1 ⟨v5, v6, kvs, h, rfl, s1, e1, t1, eh⟩
      refine ⟨⟨s1 _ _ nbF upd_same, Nat.le_refl _⟩, s1 _ _ nbF upd_same, ?_⟩
      have e1' : (upd H1 b (.dK kb)) F = some (.dK kvs) := by
        rw [upd_ne nbF.symm]
        exact e1
      have hrow : ∀ x, rowSub q f g c x = h x := fun x => by
        rw [eh x, List.take_length]
        unfold rowSub
        by_cases m : (valV kb (Sum.inr x : Key)).isSome = true
        · rw [if_pos m]
        · rw [if_neg m]
          have g0 : g x = 0 := Rb.out x (by
            cases e : valV kb (Sum.inr x : Key) with
            | none => rfl
            | some u => exact absurd (by rw [e]; rfl) m)
          have := Ra.rg x
          rw [g0, Int.zero_mul, Int.sub_zero, Int.emod_eq_of_lt this.1 this.2]
      have sH : Same H (upd H1 b (.dK kb)) := fun z o e => by
        have nz : z ≠ F := ne_of_none e hF
        by_cases zb : z = b
        · subst zb
          rw [upd_same, ← hb]
          exact e
        · rw [upd_ne zb]
          refine s1 z o nz ?_
          rw [upd_ne zb, upd_ne nz]
          exact e
      -- {name: weight for name, weight in found.items() if weight != 0}
      refine dcF (fun _ v => decide (v ≠ 0)) e1' t1 hW (fun H' R h => ⟨_, rfl, h⟩) (fun _ _ => rfl) (fun _ _ => rfl) (fun _ _ => rfl) (fun x v H' R hx h => ?_) (fun D H' s2 hD e => k H' D (sH.trans s2) (sH.free hD) ⟨_, e, ?_⟩)
      · refine ⟨_, rfl, rfl, _, rfl, ?_⟩
        have : (!decide (V.int v = V.int 0)) = decide (v ≠ 0) := by
          by_cases z : v = 0
          · rw [decide_eq_true (by rw [z]), decide_eq_false (fun n => n z)]
            rfl
          · rw [decide_eq_false fun y => z (V.int.inj y), decide_eq_true z]
            rfl
        rw [this]
        exact h
      · refine t1.filter _ _ q (fun x => ?_) (fun x hp _ => of_decide_eq_true hp) (fun x => ?_)
        · rw [hrow x]
          by_cases z : h x = 0
          · rw [if_neg (by rw [decide_eq_false fun n => n z]; exact Bool.false_ne_true), z]
          · rw [if_pos (decide_eq_true z)]
        · unfold rowSub
          exact ⟨Int.emod_nonneg _ (by omega), Int.emod_lt_of_pos _ hq⟩
def spRowReduced : Sp := fun vs H Q _ => ∃ (a D : Addr) (q : Int) (W : List Str) (f : Str → Int) (L : Ld), vs = [.ref a, .ref D, .int q] ∧ RowAt W q H a f ∧ LeadsAt W q H D L ∧ a ≠ D ∧ (L.map (·.1)).Nodup ∧ W.length ≤ 1000 ∧ 0 < q ∧ q < 100 ∧
  ∀ H' d, Same H H' → (d = a ∨ H d = none) → RowAt W q H' d (red q f (bs L)) → Q (.ref d) H'
theorem ok_row_reduced (T : Tx K mg CS CP AM) : GN P w K mg base 2 "row_reduced" spRowReduced := by
  refine Fd.gn T.f_row_reduced sc_row_reduced (fun vs H Q E h => ?_) (fun _ _ _ _ _ _ us hl => match us, hl with | [_, _, _], _ => rfl) (fun f cdv A outer s H vs Q E hr h => ?_)
  · obtain ⟨a, D, q, W, f, L, rfl, _⟩ := h
    rfl
  · obtain ⟨a, D, q, W, f, L, rfl, Ra, hL, naD, ndL, hW, hq, hq2, k⟩ := h
    have hu := hu_of hr
    refine ⟨_, (pss_cons (ps_set (i := 3) sc_row_reduced.nd rfl (Or.inl rfl) (pv 0))
      (pss_cons (ps_lock (ps_for PassesOwn.never rfl (pi_items (pv 1)) (pg_tup rfl (pgs_cons (pg_name (i := 4) sc_row_reduced.nd rfl (Or.inl rfl) (Or.inr rfl)) (pgs_cons (pg_name (i := 5) sc_row_reduced.nd rfl (Or.inl rfl) (Or.inr rfl)) pgs_nil))) (pss_one (ps_if (pt_cmp (pc_din hu (pv 4) (pv 0))) (pss_one (ps_set (i := 3) sc_row_reduced.nd rfl (Or.inl rfl) (pe_g (ok_row_less T) hr (by rfl) (pa_cons (pv 3) (pa_cons (pv 5) (pa_cons (pe_dget hu (pv 0) (pv 4) (fun _ _ => rfl)) (pa_cons (pv 2) pa_nil))))))) pss_nil))))
      (pss_one (ps_ret (pv 3))))), ?_⟩
    refine ⟨_, rfl, ?_⟩
    refine ⟨D, .dK (ldK L), hL.at_, trivial, fun od => ?_⟩
    refine ⟨_, rfl, D, od, ldK L, rfl, upd_same, ?_⟩
    have hlen : (ldK L).length = L.length := by
      unfold ldK
      rw [List.length_map]
    refine for_by (ldK L).length (fun n σ H' => ∃ d v4 v5, σ = [some (.ref a), some (.ref D), some (.int q), some (.ref d), v4, v5] ∧ Same (upd H D (.frz od (.dK (ldK L)))) H' ∧ (d = a ∨ H d = none) ∧ d ≠ D ∧ RowAt W q H' d (red q f (bs (L.take n)))) ⟨a, none, none, rfl, Same.refl _, .inl rfl, naD, by rw [List.take_zero]; exact Ra.upd naD⟩ ?_ ?_
    · rintro n σ H1 hlt ⟨d, v4, v5, rfl, s1, hd, ndD, Rd1⟩
      refine ⟨⟨s1 _ _ upd_same, hlt⟩, ?_⟩
      rintro x H2 ⟨t, key, v, hkv, rfl, ht, rfl⟩
      have hn : n < L.length := by
        rw [← hlen]
        exact hlt
      obtain ⟨p, hp⟩ : ∃ p, L[n]? = some p := ⟨_, List.getElem?_eq_getElem hn⟩
      have hkv2 : (ldK L)[n]? = some ((Sum.inr p.1 : Key), V.ref p.2.1) := by
        unfold ldK
        rw [List.getElem?_map, hp]
        rfl
      rw [hkv2] at hkv
      obtain ⟨rfl, rfl⟩ : (Sum.inr p.1 : Key) = key ∧ V.ref p.2.1 = v := ⟨congrArg Prod.fst (Option.some.inj hkv), congrArg Prod.snd (Option.some.inj hkv)⟩
      have hpm : p ∈ L := List.mem_of_getElem? hp
      have Ro := hL.row p hpm
      have noD : p.2.1 ≠ D := hL.ne Ro (List.ne_nil_of_mem hpm)
      generalize hH2 : upd H1 t (.tup [.str p.1, .ref p.2.1]) = H2
      have ht2 : H2 t = some (.tup [.str p.1, .ref p.2.1]) := by
        rw [← hH2]
        exact upd_same
      have s2 : Same (upd H D (.frz od (.dK (ldK L)))) H2 := by
        rw [← hH2]
        exact same_add s1 ht
      have Rd2 : RowAt W q H2 d (red q f (bs (L.take n))) := by
        rw [← hH2]
        exact Rd1.same (same_new ht)
      have Ra2 : RowAt W q H2 a f := (Ra.upd naD).same s2
      have Ro2 : RowAt W q H2 p.2.1 p.2.2 := (Ro.upd noD).same s2
      show _
      have goal2 : ∀ (σ2 : L2.St) (Hx : Hp), Hx = H2 → σ2 = [some (.ref a), some (.ref D), some (.int q), some (.ref d), some (.str p.1), some (.ref p.2.1)] → True := fun _ _ _ _ => trivial
      refine ⟨t, [.str p.1, .ref p.2.1], rfl, .inl (.inl ?_), rfl, _, _, rfl, _, _, rfl, rfl, ?_⟩
      · show upd H1 t (.tup [kV (Sum.inr p.1), V.ref p.2.1]) t = _
        exact upd_same
      have hH2' : upd H1 t (.tup [kV (Sum.inr p.1), V.ref p.2.1]) = H2 := hH2
      rw [hH2']
      obtain ⟨ka, ha2, Rka⟩ := id Ra2
      refine ⟨_, rfl, _, rfl, a, _, rfl, .inl ⟨ka, Sum.inr p.1, .inl ha2, rfl, rfl⟩, _, rfl, ?_⟩
      have hbs : bs (L.take (n + 1)) = bs (L.take n) ++ [(p.1, p.2.2)] := by
        unfold bs
        rw [take_snoc hp, List.map_append]
        rfl
      rw [hbs, red_snoc]
      rw [Rka.at_ p.1]
      by_cases z : f p.1 = 0
      · rw [if_pos z, if_neg (by simpa using z)]
        exact iteF ⟨d, _, _, rfl, s2, hd, ndD, Rd2⟩
      · rw [if_neg z, if_pos z]
        refine iteT ?_
        refine ⟨_, rfl, _, rfl, _, rfl, _, rfl, a, _, rfl, .inl ⟨ka, Sum.inr p.1, .inl ha2, rfl, ?_⟩, _, rfl, d, p.2.1, f p.1, q, W, _, _, rfl, Rd2, Ro2, hW, hq, hq2, fun H3 d3 s3 hd3 R3 => ?_⟩
        · rw [Rka.at_ p.1, if_neg z]
        · have hd3' : upd H D (.frz od (.dK (ldK L))) d3 = none := s2.free hd3
          obtain ⟨h3, n3⟩ := free_lock hd3'
          exact ⟨d3, _, _, rfl, s2.trans s3, .inr h3, n3, R3⟩
    · rintro σ H1 ⟨d, v4, v5, rfl, s1, hd, ndD, Rd1⟩
      refine ⟨⟨s1 _ _ upd_same, Nat.le_refl _⟩, s1 _ _ upd_same, ?_⟩
      refine ⟨_, rfl, k _ d (same_unlock hL.at_ s1) hd ?_⟩
      rw [hlen, List.take_length] at Rd1
      exact Rd1.upd ndD
end
end K14
/-! M2 -/
set_option Elab.async false
set_option linter.all false
set_option maxRecDepth 100000
set_option maxHeartbeats 4000000
/-! M2: reduced rows: what they span, one more row, that they are the only ones. -/
namespace K14
open PySem
/-! ### congruence -/
theorem dvd_emod (q a : Int) : q ∣ a % q - a := ⟨-(a / q), by have := Int.emod_add_mul_ediv a q; grind⟩
theorem emod_of_dvd {q a b : Int} (h : q ∣ a - b) : a % q = b % q := Int.emod_eq_emod_iff_emod_sub_eq_zero.mpr (Int.emod_eq_zero_of_dvd h)
theorem dvd_of_emod {q a b : Int} (h : a % q = b % q) : q ∣ a - b := Int.dvd_of_emod_eq_zero (Int.emod_eq_emod_iff_emod_sub_eq_zero.mp h)
theorem eq_of_dvd {q a b : Int} (h : q ∣ a - b) (ha : 0 ≤ a ∧ a < q) (hb : 0 ≤ b ∧ b < q) : a = b := by
  have := emod_of_dvd h
  rw [Int.emod_eq_of_lt ha.1 ha.2, Int.emod_eq_of_lt hb.1 hb.2] at this
  exact this
def Rg (q : Int) (f : Str → Int) : Prop := ∀ x, 0 ≤ f x ∧ f x < q
theorem rowSub_rg {q : Int} (hq : 0 < q) (f g : Str → Int) (c : Int) : Rg q (rowSub q f g c) := fun x => ⟨Int.emod_nonneg _ (by omega), Int.emod_lt_of_pos _ hq⟩
theorem rowSub_dvd (q : Int) (f g : Str → Int) (c : Int) (x : Str) : q ∣ rowSub q f g c x - (f x - g x * c) := dvd_emod q _
theorem rg_ext {q : Int} {f g : Str → Int} (hf : Rg q f) (hg : Rg q g) (h : ∀ x, q ∣ f x - g x) : f = g := funext fun x => eq_of_dvd (h x) (hf x) (hg x)
def zer : Str → Int := fun _ => 0
theorem zer_rg {q : Int} (hq : 0 < q) : Rg q zer := fun _ => ⟨Int.le_refl _, hq⟩
/-! ### combinations -/
def comb (c : Str → Int) (B : Bs) (x : Str) : Int := (B.map fun p => c p.1 * p.2 x).sum
theorem comb_cons (c : Str → Int) (p : Str × (Str → Int)) (B : Bs) (x : Str) : comb c (p :: B) x = c p.1 * p.2 x + comb c B x := by
  unfold comb
  rw [List.map_cons, List.sum_cons]
theorem comb_nil (c : Str → Int) (x : Str) : comb c [] x = 0 := rfl
theorem comb_append (c : Str → Int) (B B' : Bs) (x : Str) : comb c (B ++ B') x = comb c B x + comb c B' x := by
  induction B with
  | nil => rw [List.nil_append, comb_nil, Int.zero_add]
  | cons p B ih => rw [List.cons_append, comb_cons, comb_cons, ih, Int.add_assoc]
/-- the folding of combinations -/
def foldB (q : Int) (c : Str → Int) (B : Bs) (s : Str → Int) : Str → Int := B.foldl (fun acc p => rowSub q acc p.2 (c p.1)) s
theorem foldB_cons (q : Int) (c : Str → Int) (p : Str × (Str → Int)) (B : Bs) (s : Str → Int) : foldB q c (p :: B) s = foldB q c B (rowSub q s p.2 (c p.1)) := rfl
theorem foldB_dvd (q : Int) (c : Str → Int) (B : Bs) (s : Str → Int) (x : Str) : q ∣ foldB q c B s x - (s x - comb c B x) := by
  induction B generalizing s with
  | nil =>
    rw [comb_nil]
    show q ∣ s x - (s x - 0)
    exact ⟨0, by grind⟩
  | cons p B ih =>
    rw [foldB_cons, comb_cons]
    obtain ⟨u, hu⟩ := ih (rowSub q s p.2 (c p.1))
    obtain ⟨v, hv⟩ := rowSub_dvd q s p.2 (c p.1) x
    exact ⟨u + v, by grind⟩
theorem foldB_rg {q : Int} (hq : 0 < q) (c : Str → Int) (B : Bs) (s : Str → Int) (hs : Rg q s) : Rg q (foldB q c B s) := by
  induction B generalizing s with
  | nil => exact hs
  | cons p B ih => exact ih _ (rowSub_rg hq _ _ _)
/-- a property kept by rows less multiples -/
def Sub (q : Int) (T : (Str → Int) → Prop) : Prop := ∀ f g c, T f → T g → T (rowSub q f g c)
theorem Sub.fold {q : Int} {T : (Str → Int) → Prop} (h : Sub q T) (c : Str → Int) (B : Bs) (s : Str → Int) (hs : T s) (hB : ∀ p ∈ B, T p.2) : T (foldB q c B s) := by
  induction B generalizing s with
  | nil => exact hs
  | cons p B ih => exact ih _ (h _ _ _ hs (hB p List.mem_cons_self)) fun r hr => hB r (List.mem_cons_of_mem _ hr)
theorem red_fold {q : Int} (hq : 0 < q) (c : Str → Int) (B : Bs) (s : Str → Int) (hs : Rg q s) : B.foldl (fun acc p => if c p.1 ≠ 0 then rowSub q acc p.2 (c p.1) else acc) s = foldB q c B s := by
  induction B generalizing s with
  | nil => rfl
  | cons p B ih =>
    rw [foldB_cons, List.foldl_cons]
    by_cases z : c p.1 = 0
    · rw [if_neg (by simpa using z), ih _ hs]
      have : rowSub q s p.2 (c p.1) = s := by
        funext x
        unfold rowSub
        rw [z, Int.mul_zero, Int.sub_zero, Int.emod_eq_of_lt (hs x).1 (hs x).2]
      rw [this]
    · rw [if_pos z, ih _ (rowSub_rg hq _ _ _)]
theorem red_eq {q : Int} (hq : 0 < q) {f : Str → Int} (hf : Rg q f) (B : Bs) : red q f B = foldB q f B f := red_fold hq f B f hf
theorem red_rg {q : Int} (hq : 0 < q) {f : Str → Int} (hf : Rg q f) (B : Bs) : Rg q (red q f B) := by
  rw [red_eq hq hf]
  exact foldB_rg hq _ _ _ hf
theorem red_dvd {q : Int} (hq : 0 < q) {f : Str → Int} (hf : Rg q f) (B : Bs) (x : Str) : q ∣ red q f B x - (f x - comb f B x) := by
  rw [red_eq hq hf]
  exact foldB_dvd _ _ _ _ _
/-! ### reduced rows -/
structure Rref (q : Int) (U : List Str) (B : Bs) : Prop where
  nd : (B.map (·.1)).Nodup
  rg : ∀ p ∈ B, Rg q p.2
  sup : ∀ p ∈ B, ∀ x, p.2 x ≠ 0 → x ∈ U
  one : ∀ p ∈ B, p.2 p.1 = 1
  zer : ∀ p ∈ B, ∀ r ∈ B, r.1 ≠ p.1 → r.2 p.1 = 0
  low : ∀ p ∈ B, ∀ z, slt z p.1 → p.2 z = 0
theorem Rref.nil (q : Int) (U : List Str) : Rref q U [] := ⟨List.nodup_nil, (fun p h => nomatch h), (fun p h => nomatch h), (fun p h => nomatch h), (fun p h => nomatch h), (fun p h => nomatch h)⟩
theorem Rref.lead_in {q : Int} {U : List Str} {B : Bs} (R : Rref q U B) {p : Str × (Str → Int)} (hp : p ∈ B) : p.1 ∈ U := R.sup p hp p.1 (by rw [R.one p hp]; decide)
/-- by one name the rows are one -/
theorem Rref.uniq {q : Int} {U : List Str} {B : Bs} (R : Rref q U B) {p r : Str × (Str → Int)} (hp : p ∈ B) (hr : r ∈ B) (e : p.1 = r.1) : p = r := by
  obtain ⟨i, hi, e1⟩ := List.mem_iff_getElem.mp hp
  obtain ⟨j, hj, e2⟩ := List.mem_iff_getElem.mp hr
  have h1 : (B.map (·.1))[i]'(by rw [List.length_map]; exact hi) = (B.map (·.1))[j]'(by rw [List.length_map]; exact hj) := by
    rw [List.getElem_map, List.getElem_map, e1, e2, e]
  have nd := List.pairwise_iff_getElem.mp R.nd
  have : i = j := by
    rcases Nat.lt_trichotomy i j with c | c | c
    · exact absurd h1 (nd i j (by rw [List.length_map]; exact hi) (by rw [List.length_map]; exact hj) c)
    · exact c
    · exact absurd h1.symm (nd j i (by rw [List.length_map]; exact hj) (by rw [List.length_map]; exact hi) c)
  subst this
  rw [← e1, ← e2]
/-- the combination at a leading name -/
theorem comb_lead {c : Str → Int} {p : Str × (Str → Int)} (one : p.2 p.1 = 1) : ∀ {B : Bs}, (B.map (·.1)).Nodup → (∀ r ∈ B, r.1 ≠ p.1 → r.2 p.1 = 0) → (∀ r ∈ B, r.1 = p.1 → r = p) → (p ∈ B → comb c B p.1 = c p.1) ∧ (p ∉ B → comb c B p.1 = 0)
  | [], _, _, _ => ⟨(fun h => nomatch h), fun _ => rfl⟩
  | r :: B, nd, h, hu => by
    have nd : (r.1 :: B.map (·.1)).Nodup := nd
    obtain ⟨n1, n2⟩ := List.nodup_cons.mp nd
    obtain ⟨i1, i2⟩ := comb_lead (c := c) one n2 (fun s hs => h s (List.mem_cons_of_mem _ hs)) fun s hs => hu s (List.mem_cons_of_mem _ hs)
    rw [comb_cons]
    by_cases e : r.1 = p.1
    · have er := hu r List.mem_cons_self e
      subst er
      have hn : r ∉ B := fun z => n1 (List.mem_map.mpr ⟨_, z, rfl⟩)
      rw [one, Int.mul_one, i2 hn, Int.add_zero]
      exact ⟨fun _ => rfl, fun z => absurd List.mem_cons_self z⟩
    · rw [h r List.mem_cons_self e, Int.mul_zero, Int.zero_add]
      refine ⟨fun z => ?_, fun z => i2 fun y => z (List.mem_cons_of_mem _ y)⟩
      rcases List.mem_cons.mp z with y | z
      · exact absurd (by rw [y]) e
      · exact i1 z
theorem Rref.comb_at {q : Int} {U : List Str} {B : Bs} (R : Rref q U B) (c : Str → Int) {p : Str × (Str → Int)} (hp : p ∈ B) : comb c B p.1 = c p.1 :=
  (comb_lead (R.one p hp) R.nd (fun r hr => R.zer p hp r hr) fun r hr e => R.uniq hr hp e).1 hp
/-- what is left has 0 at every leading name -/
theorem Rref.red_lead {q : Int} {U : List Str} {B : Bs} (hq : 0 < q) (R : Rref q U B) {f : Str → Int} (hf : Rg q f) {p : Str × (Str → Int)} (hp : p ∈ B) : red q f B p.1 = 0 := by
  have h := red_dvd hq hf B p.1
  rw [R.comb_at f hp, Int.sub_self] at h
  exact eq_of_dvd h (red_rg hq hf B p.1) ⟨Int.le_refl _, hq⟩
theorem comb_off {q : Int} {U : List Str} {B : Bs} (R : Rref q U B) (c : Str → Int) {x : Str} (hx : x ∉ U) : comb c B x = 0 := by
  have : ∀ p ∈ B, p.2 x = 0 := fun p hp => Decidable.byContradiction fun z => hx (R.sup p hp x z)
  clear R
  induction B with
  | nil => rfl
  | cons p B ih =>
    rw [comb_cons, this p List.mem_cons_self, Int.mul_zero, Int.zero_add]
    exact ih fun r hr => this r (List.mem_cons_of_mem _ hr)
theorem Rref.red_sup {q : Int} {U : List Str} {B : Bs} (hq : 0 < q) (R : Rref q U B) {f : Str → Int} (hf : Rg q f) (hs : ∀ x, f x ≠ 0 → x ∈ U) {x : Str} (hx : red q f B x ≠ 0) : x ∈ U := by
  refine Decidable.byContradiction fun n => hx ?_
  have h := red_dvd hq hf B x
  rw [comb_off R f n, Decidable.byContradiction fun z : ¬ f x = 0 => n (hs x z), Int.sub_zero] at h
  exact eq_of_dvd h (red_rg hq hf B x) ⟨Int.le_refl _, hq⟩
/-- f is spanned -/
def InS (q : Int) (B : Bs) (f : Str → Int) : Prop := Rg q f ∧ ∀ x, q ∣ f x - comb f B x
theorem inS_red {q : Int} (hq : 0 < q) {B : Bs} {f : Str → Int} (hf : Rg q f) : InS q B f ↔ ∀ x, red q f B x = 0 := by
  constructor
  · intro h x
    obtain ⟨u, hu⟩ := h.2 x
    obtain ⟨v, hv⟩ := red_dvd hq hf B x
    exact eq_of_dvd ⟨u + v, by grind⟩ (red_rg hq hf B x) ⟨Int.le_refl _, hq⟩
  · intro h
    refine ⟨hf, fun x => ?_⟩
    obtain ⟨v, hv⟩ := red_dvd hq hf B x
    rw [h x] at hv
    exact ⟨-v, by grind⟩
theorem comb_lin {q : Int} {f g h : Str → Int} {c : Int} (e : ∀ x, q ∣ h x - (f x - g x * c)) (B : Bs) (x : Str) : q ∣ comb h B x - (comb f B x - comb g B x * c) := by
  induction B with
  | nil =>
    rw [comb_nil, comb_nil, comb_nil]
    exact ⟨0, by grind⟩
  | cons p B ih =>
    rw [comb_cons, comb_cons, comb_cons]
    obtain ⟨u, hu⟩ := ih
    obtain ⟨v, hv⟩ := e p.1
    exact ⟨u + v * p.2 x, by grind⟩
theorem inS_sub {q : Int} (hq : 0 < q) (B : Bs) : Sub q (InS q B) := fun f g c hf hg => by
  refine ⟨rowSub_rg hq f g c, fun x => ?_⟩
  obtain ⟨a, ha⟩ := hf.2 x
  obtain ⟨b, hb⟩ := hg.2 x
  obtain ⟨v, hv⟩ := rowSub_dvd q f g c x
  obtain ⟨u, hu⟩ := comb_lin (fun y => rowSub_dvd q f g c y) B x
  exact ⟨a - b * c + v - u, by grind⟩
theorem comb_zero (B : Bs) (c : Str → Int) (h : ∀ p ∈ B, c p.1 = 0) (x : Str) : comb c B x = 0 := by
  induction B with
  | nil => rfl
  | cons p B ih => rw [comb_cons, h p List.mem_cons_self, Int.zero_mul, Int.zero_add, ih fun r hr => h r (List.mem_cons_of_mem _ hr)]
theorem inS_zer {q : Int} (hq : 0 < q) (B : Bs) : InS q B zer := ⟨zer_rg hq, fun x => by
  rw [comb_zero B zer (fun _ _ => rfl)]
  exact ⟨0, by unfold zer; grind⟩⟩
/-- a combination whose factors are 0 but at p -/
theorem Rref.comb_only {q : Int} {U : List Str} {B : Bs} (R : Rref q U B) {c : Str → Int} {p : Str × (Str → Int)} (hp : p ∈ B) (h0 : ∀ r ∈ B, r.1 ≠ p.1 → c r.1 = 0) (h1 : c p.1 = 1) (x : Str) : comb c B x = p.2 x := by
  have nd := R.nd
  have hu : ∀ r ∈ B, r.1 = p.1 → r = p := fun r hr e => R.uniq hr hp e
  clear R
  induction B with
  | nil => exact nomatch hp
  | cons r B ih =>
    have nd : (r.1 :: B.map (·.1)).Nodup := nd
    obtain ⟨n1, n2⟩ := List.nodup_cons.mp nd
    rw [comb_cons]
    rcases List.mem_cons.mp hp with e | hp
    · subst e
      rw [h1, Int.one_mul, comb_zero B c (fun s hs => h0 s (List.mem_cons_of_mem _ hs) fun z => n1 (List.mem_map.mpr ⟨s, hs, z⟩)), Int.add_zero]
    · have ne : r.1 ≠ p.1 := fun z => n1 (List.mem_map.mpr ⟨p, hp, z.symm⟩)
      rw [h0 r List.mem_cons_self ne, Int.zero_mul, Int.zero_add]
      exact ih hp (fun s hs => h0 s (List.mem_cons_of_mem _ hs)) n2 fun s hs => hu s (List.mem_cons_of_mem _ hs)
theorem Rref.inS_row {q : Int} {U : List Str} {B : Bs} (R : Rref q U B) {p : Str × (Str → Int)} (hp : p ∈ B) : InS q B p.2 := by
  refine ⟨R.rg p hp, fun x => ?_⟩
  rw [R.comb_only hp (fun r hr n => R.zer r hr p hp fun z => n z.symm) (R.one p hp) x]
  exact ⟨0, by grind⟩
/-- all that is spanned has what 0 and the rows have -/
theorem InS.gen {q : Int} (hq : 0 < q) {B : Bs} {f : Str → Int} (h : InS q B f) {T : (Str → Int) → Prop} (hT : Sub q T) (h0 : T zer) (hB : ∀ p ∈ B, T p.2) : T f := by
  have e : f = foldB q (fun x => - f x) B zer := by
    refine rg_ext h.1 (foldB_rg hq _ _ _ (zer_rg hq)) fun x => ?_
    obtain ⟨u, hu⟩ := h.2 x
    obtain ⟨v, hv⟩ := foldB_dvd q (fun x => - f x) B zer x
    have e2 : comb (fun x => - f x) B x = - comb f B x := by
      clear hu hv u v h hB
      induction B with
      | nil => rfl
      | cons p B ih =>
        rw [comb_cons, comb_cons, ih]
        grind
    rw [e2] at hv
    have z : zer x = 0 := rfl
    exact ⟨u - v, by grind⟩
  rw [e]
  exact hT.fold _ _ _ h0 hB
/-! ### one more row -/
structure StepB (q : Int) (B : Bs) (f : Str → Int) (m : Str) (i : Int) : Prop where
  ne : red q f B m ≠ 0
  low : ∀ z, red q f B z ≠ 0 → ¬ slt z m
  inv : red q f B m * i % q = 1
def newR (q : Int) (B : Bs) (f : Str → Int) (i : Int) : Str → Int := rowSub q zer (red q f B) (-i)
def elim (q : Int) (n : Str → Int) (m : Str) (p : Str × (Str → Int)) : Str × (Str → Int) := (p.1, if p.2 m ≠ 0 then rowSub q p.2 n (p.2 m) else p.2)
def stepB (q : Int) (B : Bs) (f : Str → Int) (m : Str) (i : Int) : Bs := B.map (elim q (newR q B f i) m) ++ [(m, newR q B f i)]
section
variable {q : Int} {U : List Str} {B : Bs} {f : Str → Int} {m : Str} {i : Int}
theorem newR_dvd (q : Int) (B : Bs) (f : Str → Int) (i : Int) (x : Str) : q ∣ newR q B f i x - red q f B x * i := by
  obtain ⟨v, hv⟩ := rowSub_dvd q zer (red q f B) (-i) x
  refine ⟨v, ?_⟩
  have : zer x = 0 := rfl
  unfold newR
  grind
theorem elim_dvd (hq : 0 < q) {n : Str → Int} {m : Str} {p : Str × (Str → Int)} (x : Str) : q ∣ (elim q n m p).2 x - (p.2 x - n x * p.2 m) := by
  unfold elim
  show q ∣ (if p.2 m ≠ 0 then rowSub q p.2 n (p.2 m) else p.2) x - _
  by_cases z : p.2 m = 0
  · rw [if_neg (by simpa using z), z]
    exact ⟨0, by grind⟩
  · rw [if_pos z]
    exact rowSub_dvd q _ _ _ x
theorem elim_rg (hq : 0 < q) {n : Str → Int} {m : Str} {p : Str × (Str → Int)} (hp : Rg q p.2) : Rg q (elim q n m p).2 := by
  unfold elim
  show Rg q (if p.2 m ≠ 0 then rowSub q p.2 n (p.2 m) else p.2)
  split
  · exact rowSub_rg hq _ _ _
  · exact hp
theorem StepB.n_one (hq : 1 < q) (S : StepB q B f m i) : newR q B f i m = 1 := by
  obtain ⟨v, hv⟩ := newR_dvd q B f i m
  have h1 : q ∣ red q f B m * i - 1 := by
    refine dvd_of_emod ?_
    rw [S.inv, Int.emod_eq_of_lt (by decide) hq]
  obtain ⟨u, hu⟩ := h1
  exact eq_of_dvd ⟨u + v, by grind⟩ (rowSub_rg (by omega) _ _ _ m) ⟨by decide, hq⟩
theorem newR_zero (hq : 0 < q) {x : Str} (h : red q f B x = 0) : newR q B f i x = 0 := by
  obtain ⟨v, hv⟩ := newR_dvd q B f i x
  rw [h, Int.zero_mul] at hv
  exact eq_of_dvd ⟨v, hv⟩ (rowSub_rg hq _ _ _ x) ⟨Int.le_refl _, hq⟩
theorem StepB.new_lead (hq : 1 < q) (R : Rref q U B) (hf : Rg q f) (S : StepB q B f m i) {p : Str × (Str → Int)} (hp : p ∈ B) : p.1 ≠ m := fun e => S.ne (by
  rw [← e]
  exact R.red_lead (by omega) hf hp)
theorem Rref.step (hq : 1 < q) (R : Rref q U B) (hf : Rg q f) (hs : ∀ x, f x ≠ 0 → x ∈ U) (S : StepB q B f m i) : Rref q U (stepB q B f m i) := by
  have hq0 : 0 < q := by omega
  have n1 := S.n_one hq
  have nl : ∀ p ∈ B, newR q B f i p.1 = 0 := fun p hp => newR_zero hq0 (R.red_lead hq0 hf hp)
  have nlow : ∀ z, slt z m → newR q B f i z = 0 := fun z hz => newR_zero hq0 (Decidable.byContradiction fun w => S.low z w hz)
  have nsup : ∀ x, newR q B f i x ≠ 0 → x ∈ U := fun x hx => R.red_sup hq0 hf hs fun z => hx (newR_zero hq0 z)
  have nrg : Rg q (newR q B f i) := rowSub_rg hq0 _ _ _
  have at_ : ∀ p ∈ B, ∀ x, (p.2 x = 0 → (newR q B f i x = 0 ∨ p.2 m = 0) → (elim q (newR q B f i) m p).2 x = 0) := fun p hp x h1 h2 => by
    obtain ⟨v, hv⟩ := elim_dvd (n := newR q B f i) (m := m) (p := p) hq0 x
    refine eq_of_dvd ⟨v, ?_⟩ (elim_rg hq0 (R.rg p hp) x) ⟨Int.le_refl _, hq0⟩
    have : newR q B f i x * p.2 m = 0 := by
      rcases h2 with h2 | h2
      · rw [h2, Int.zero_mul]
      · rw [h2, Int.mul_zero]
    grind
  have mem : ∀ p ∈ stepB q B f m i, (∃ r ∈ B, p = elim q (newR q B f i) m r) ∨ p = (m, newR q B f i) := fun p hp => by
    rcases List.mem_append.mp hp with h | h
    · obtain ⟨r, hr, e⟩ := List.mem_map.mp h
      exact .inl ⟨r, hr, e.symm⟩
    · exact .inr (List.mem_singleton.mp h)
  refine ⟨?_, fun p hp => ?_, fun p hp x hx => ?_, fun p hp => ?_, fun p hp r hr ne => ?_, fun p hp z hz => ?_⟩
  · unfold stepB
    rw [List.map_append, List.map_map]
    refine List.nodup_append.mpr ⟨R.nd, by simp, fun a ha b hb e => ?_⟩
    obtain ⟨p, hp, ep⟩ := List.mem_map.mp ha
    rw [List.mem_singleton.mp hb] at e
    exact S.new_lead hq R hf hp (ep.trans e)
  · rcases mem p hp with ⟨r, hr, rfl⟩ | rfl
    · exact elim_rg hq0 (R.rg r hr)
    · exact nrg
  · rcases mem p hp with ⟨r, hr, rfl⟩ | rfl
    · refine Decidable.byContradiction fun w => hx (at_ r hr x (Decidable.byContradiction fun z => w (R.sup r hr x z)) (.inl (Decidable.byContradiction fun z => w (nsup x z))))
    · exact nsup x hx
  · rcases mem p hp with ⟨r, hr, rfl⟩ | rfl
    · obtain ⟨v, hv⟩ := elim_dvd (n := newR q B f i) (m := m) (p := r) hq0 r.1
      refine eq_of_dvd ⟨v, ?_⟩ (elim_rg hq0 (R.rg r hr) _) ⟨by decide, hq⟩
      rw [nl r hr, R.one r hr] at hv
      show (elim q (newR q B f i) m r).2 r.1 - 1 = _
      grind
    · exact n1
  · rcases mem p hp with ⟨p0, hp0, rfl⟩ | rfl
    · rcases mem r hr with ⟨r0, hr0, rfl⟩ | rfl
      · exact at_ r0 hr0 p0.1 (R.zer p0 hp0 r0 hr0 ne) (.inl (nl p0 hp0))
      · exact nl p0 hp0
    · rcases mem r hr with ⟨r0, hr0, rfl⟩ | rfl
      · obtain ⟨v, hv⟩ := elim_dvd (n := newR q B f i) (m := m) (p := r0) hq0 m
        refine eq_of_dvd ⟨v, ?_⟩ (elim_rg hq0 (R.rg r0 hr0) _) ⟨Int.le_refl _, hq0⟩
        rw [n1] at hv
        show (elim q (newR q B f i) m r0).2 m - 0 = _
        grind
      · exact absurd rfl ne
  · rcases mem p hp with ⟨r, hr, rfl⟩ | rfl
    · have h0 : r.2 z = 0 := R.low r hr z hz
      refine at_ r hr z h0 ?_
      rcases slt_tri z m with c | c | c
      · exact .inl (nlow z c)
      · rw [c] at h0
        exact .inr h0
      · exact .inr (R.low r hr m (slt_trans c hz))
    · exact nlow z hz
/-- what all rows so far and f have, all rows then have -/
theorem StepB.to_new (hq : 0 < q) {T : (Str → Int) → Prop} (hT : Sub q T) (h0 : T zer) (hB : ∀ p ∈ B, T p.2) (hf : Rg q f) (hTf : T f) : ∀ p ∈ stepB q B f m i, T p.2 := by
  have hr : T (red q f B) := by
    rw [red_eq hq hf]
    exact hT.fold _ _ _ hTf hB
  have hn : T (newR q B f i) := hT _ _ _ h0 hr
  intro p hp
  rcases List.mem_append.mp hp with h | h
  · obtain ⟨r, hr, e⟩ := List.mem_map.mp h
    rw [← e]
    show T (if r.2 m ≠ 0 then rowSub q r.2 (newR q B f i) (r.2 m) else r.2)
    split
    · exact hT _ _ _ (hB r hr) hn
    · exact hB r hr
  · rw [List.mem_singleton.mp h]
    exact hn
/-- and back -/
theorem StepB.of_new (hq : 1 < q) (R : Rref q U B) (hf : Rg q f) (S : StepB q B f m i) {T : (Str → Int) → Prop} (hT : Sub q T) (hN : ∀ p ∈ stepB q B f m i, T p.2) (h0 : T zer) : (∀ p ∈ B, T p.2) ∧ T f := by
  have hq0 : 0 < q := by omega
  have hn : T (newR q B f i) := hN (m, newR q B f i) (List.mem_append.mpr (.inr (List.mem_singleton.mpr rfl)))
  have hB : ∀ p ∈ B, T p.2 := fun p hp => by
    have he := hN _ (List.mem_append.mpr (.inl (List.mem_map.mpr ⟨p, hp, rfl⟩)))
    have e : p.2 = rowSub q (elim q (newR q B f i) m p).2 (newR q B f i) (- p.2 m) := by
      refine rg_ext (R.rg p hp) (rowSub_rg hq0 _ _ _) fun x => ?_
      obtain ⟨u, hu⟩ := elim_dvd (n := newR q B f i) (m := m) (p := p) hq0 x
      obtain ⟨v, hv⟩ := rowSub_dvd q (elim q (newR q B f i) m p).2 (newR q B f i) (- p.2 m) x
      exact ⟨-u - v, by grind⟩
    rw [e]
    exact hT _ _ _ he hn
  refine ⟨hB, ?_⟩
  -- what is left is a multiple of the new row
  have hr : T (red q f B) := by
    have e : red q f B = rowSub q zer (newR q B f i) (- red q f B m) := by
      refine rg_ext (red_rg hq0 hf B) (rowSub_rg hq0 _ _ _) fun x => ?_
      obtain ⟨u, hu⟩ := newR_dvd q B f i x
      obtain ⟨v, hv⟩ := rowSub_dvd q zer (newR q B f i) (- red q f B m) x
      obtain ⟨w, hw⟩ : q ∣ red q f B m * i - 1 := dvd_of_emod (by rw [S.inv, Int.emod_eq_of_lt (by decide) hq])
      have : zer x = 0 := rfl
      exact ⟨-v - u * red q f B m - red q f B x * w, by grind⟩
    rw [e]
    exact hT _ _ _ h0 hn
  have e : f = foldB q (fun x => - f x) B (red q f B) := by
    refine rg_ext hf (foldB_rg hq0 _ _ _ (red_rg hq0 hf B)) fun x => ?_
    obtain ⟨u, hu⟩ := red_dvd hq0 hf B x
    obtain ⟨v, hv⟩ := foldB_dvd q (fun x => - f x) B (red q f B) x
    have e2 : comb (fun x => - f x) B x = - comb f B x := by
      clear hu hv u v hN hn hB hr R S
      induction B with
      | nil => rfl
      | cons p B ih =>
        rw [comb_cons, comb_cons, ih]
        grind
    rw [e2] at hv
    exact ⟨-u - v, by grind⟩
  rw [e]
  exact hT.fold _ _ _ hr hB
end
/-! ### the only ones -/
theorem comb_low {q : Int} {U : List Str} {B : Bs} (R : Rref q U B) {g : Str → Int} {m : Str} (hm : ∀ p ∈ B, p.1 ≠ m) (hz : ∀ z, slt z m → g z = 0) : comb g B m = 0 := by
  have h : ∀ p ∈ B, g p.1 * p.2 m = 0 := fun p hp => by
    rcases slt_tri p.1 m with c | c | c
    · rw [hz _ c, Int.zero_mul]
    · exact absurd c (hm p hp)
    · rw [R.low p hp m c, Int.mul_zero]
  clear R hm
  induction B with
  | nil => rfl
  | cons p B ih => rw [comb_cons, h p List.mem_cons_self, Int.zero_add, ih fun r hr => h r (List.mem_cons_of_mem _ hr)]
theorem Rref.has_lead {q : Int} (hq : 1 < q) {U : List Str} {B C : Bs} (R : Rref q U B) (R' : Rref q U C) (h : ∀ p ∈ C, InS q B p.2) {p : Str × (Str → Int)} (hp : p ∈ C) : ∃ r ∈ B, r.1 = p.1 := by
  refine Decidable.byContradiction fun n => ?_
  have h1 := (h p hp).2 p.1
  rw [comb_low R (fun r hr e => n ⟨r, hr, e⟩) (R'.low p hp), R'.one p hp] at h1
  have := eq_of_dvd h1 ⟨by decide, hq⟩ ⟨Int.le_refl _, by omega⟩
  exact absurd this (by decide)
theorem Rref.sub {q : Int} (hq : 1 < q) {U : List Str} {B C : Bs} (R : Rref q U B) (R' : Rref q U C) (h : ∀ p ∈ C, InS q B p.2) (h' : ∀ p ∈ B, InS q C p.2) : ∀ p ∈ C, p ∈ B := fun p hp => by
  obtain ⟨r, hr, e⟩ := R.has_lead hq R' h hp
  have hq0 : 0 < q := by omega
  have e2 : p.2 = r.2 := by
    refine rg_ext (R'.rg p hp) (R.rg r hr) fun x => ?_
    have h1 := (h p hp).2 x
    rw [R.comb_only hr (fun s hs ne => ?_) (by rw [e]; exact R'.one p hp) x] at h1
    · exact h1
    · obtain ⟨t, ht, et⟩ := R'.has_lead hq R h' hs
      rw [← et]
      exact R'.zer t ht p hp (by rw [et, ← e]; exact fun z => ne z.symm)
  have : p = r := Prod.ext e.symm e2
  rw [this]
  exact hr
theorem Rref.same {q : Int} (hq : 1 < q) {U : List Str} {B C : Bs} (R : Rref q U B) (R' : Rref q U C) (h : ∀ f, Rg q f → (∀ x, f x ≠ 0 → x ∈ U) → (InS q B f ↔ InS q C f)) : ∀ p, p ∈ B ↔ p ∈ C := fun p => by
  have h1 : ∀ p ∈ C, InS q B p.2 := fun p hp => (h p.2 (R'.rg p hp) (R'.sup p hp)).mpr (R'.inS_row hp)
  have h2 : ∀ p ∈ B, InS q C p.2 := fun p hp => (h p.2 (R.rg p hp) (R.sup p hp)).mp (R.inS_row hp)
  exact ⟨R'.sub hq R h2 h1 p, R.sub hq R' h1 h2 p⟩
/-- the order of the rows is nothing -/
theorem Rref.perm {q : Int} {U : List Str} {B C : Bs} (R : Rref q U B) (nd : (C.map (·.1)).Nodup) (h : ∀ p, p ∈ C ↔ p ∈ B) : Rref q U C :=
  ⟨nd, fun p hp => R.rg p ((h p).mp hp), fun p hp => R.sup p ((h p).mp hp), fun p hp => R.one p ((h p).mp hp), fun p hp r hr => R.zer p ((h p).mp hp) r ((h r).mp hr), fun p hp => R.low p ((h p).mp hp)⟩
theorem Rref.inS_perm {q : Int} (hq : 0 < q) {U : List Str} {B C : Bs} (R : Rref q U B) (nd : (C.map (·.1)).Nodup) (h : ∀ p, p ∈ C ↔ p ∈ B) (f : Str → Int) : InS q C f ↔ InS q B f := by
  have R' := R.perm nd h
  constructor
  · intro hf
    exact hf.gen hq (inS_sub hq B) (inS_zer hq B) fun p hp => R.inS_row ((h p).mp hp)
  · intro hf
    exact hf.gen hq (inS_sub hq C) (inS_zer hq C) fun p hp => R'.inS_row ((h p).mpr hp)
end K14
/-! R3 -/
set_option Elab.async false
set_option linter.all false
set_option maxRecDepth 100000
set_option maxHeartbeats 4000000
/-! R3: min of a list of texts; list(d.values()); xs.extend(d). -/
namespace K14
open PySem PySem.Spec PyProof.Rows L2
theorem minOf_str (x : Str) : ∀ xs : List Str, PySem.W.minOf x xs ∈ x :: xs ∧ ∀ z ∈ x :: xs, ¬ slt z (PySem.W.minOf x xs) := by
  intro xs
  induction xs generalizing x with
  | nil =>
    refine ⟨List.mem_cons_self, fun z hz => ?_⟩
    rw [List.mem_singleton.mp hz]
    exact slt_irrefl _
  | cons y ys ih =>
    have e : PySem.W.minOf x (y :: ys) = PySem.W.minOf (if slt y x then y else x) ys := by
      show ys.foldl _ (if PySem.W.DatumOrd.lt y x = true then y else x) = _
      have : (PySem.W.DatumOrd.lt y x = true) = (slt y x) := by
        show (decide (slt y x) = true) = _
        exact propext decide_eq_true_iff
      unfold PySem.W.minOf
      congr 1
      by_cases h : slt y x
      · rw [if_pos h, if_pos (by rw [this]; exact h)]
      · rw [if_neg h, if_neg (by rw [this]; exact h)]
    rw [e]
    by_cases h : slt y x
    · rw [if_pos h]
      obtain ⟨h1, h2⟩ := ih y
      refine ⟨List.mem_cons_of_mem _ h1, fun z hz => ?_⟩
      rcases List.mem_cons.mp hz with ez | hz
      · rw [ez]
        intro q
        exact h2 y List.mem_cons_self (slt_trans h q)
      · exact h2 z hz
    · rw [if_neg h]
      obtain ⟨h1, h2⟩ := ih x
      refine ⟨?_, fun z hz => ?_⟩
      · rcases List.mem_cons.mp h1 with e1 | h1
        · rw [e1]
          exact List.mem_cons_self
        · exact List.mem_cons_of_mem _ (List.mem_cons_of_mem _ h1)
      · rcases List.mem_cons.mp hz with ez | hz
        · rw [ez]
          exact h2 x List.mem_cons_self
        · rcases List.mem_cons.mp hz with ez | hz
          · rw [ez]
            exact nslt_trans (h2 x List.mem_cons_self) h
          · exact h2 z (List.mem_cons_of_mem _ hz)
section
variable {X : Cx}
def rMinS (K : PySem.W.Frag) : List V → Hp → VK → Prop := fun vs H Q => ∃ (a : Addr) (ys : List Str), vs = [V.ref a] ∧ SqL K H a (ys.map V.str) ∧ ys ≠ [] ∧ ∀ m, m ∈ ys → (∀ z ∈ ys, ¬ slt z m) → Q (.str m) H
theorem cr_minS (hu : X.A.units + 1 < cLine) (hc : X.calm = true := by rfl) : CallR X (.builtin "min") (rMinS X.K) := by
  intro pins s σ H vs us Q I r h
  obtain ⟨a, ys, rfl, hs, hne, q⟩ := h
  obtain ⟨its, rv, hl, _⟩ := I.list hs
  rw [Vals.ref1 r]
  cases ys with
  | nil => exact absurd rfl hne
  | cons x xs =>
    obtain ⟨m1, m2⟩ := minOf_str x xs
    refine PySem.W.min_list_datum (α := Str) (x := x) (xs := xs) (I.ok.hd hc) hl.isList (PySem.W.HoldAll.of_strs (by simpa using rv.strs)) (by show X.A.units + 1 + 0 < cLine; omega) fun i v h' tk hv hH hk => ?_
    obtain ⟨t, rfl⟩ := PySem.W.str_of_holds hH
    exact ⟨.str _, H, I.kept hk, ⟨_, rfl⟩, q _ m1 m2⟩
end
/-! ### list(d.values()) -/
theorem vals_at : ∀ {us : List Value} {kvs : List (Key × V)} {vs : List (Key × Value)}, KV kvs vs → us.length = vs.length → (∀ (j : Nat) (v : Value), us[j]? = some v → ∃ k : Key, vs[j]? = some (k, v)) → Vals (kvs.map (·.2)) us
  | [], _, _, .nil, _, _ => .nil
  | u :: us, _, _, .cons r t, hl, h => by
    obtain ⟨k, e1⟩ := h 0 u rfl
    have e1' := Option.some.inj e1
    subst e1'
    exact .cons r.2 (vals_at t (Nat.succ.inj hl) fun j v e => h (j + 1) v e)
def rValuesL : V → Hp → VK → Prop := fun x H Q => ∃ (d : Addr) (kvs : List (Key × V)), x = .ref d ∧ H d = some (.dK kvs) ∧ ∀ p, H p = none → Q (.ref p) (upd H p (.lst (kvs.map (·.2))))
def tListValues (te : TE) : TE := fun σ H Q => te σ H fun x H1 => rValuesL x H1 Q
section
variable {X : Cx} {e : Expr} {te : TE} {p apos cpos pos : Pos}
theorem pe_listValues (he : PE X e te) (hg : Gl X "list") (hm : X.mg "list" = none) (hv : bootBuiltins "list" = some (.type "list")) (hc : X.calm = true := by rfl) (hbase : attributeBase e "values" X.env (eval e X.env) = eval e X.env := by rfl) (hline : (apos.endLine == cpos.line) = true := by rfl)
    (hs : starEach [.Call (.Attribute e "values" apos) [] [] cpos] X.env = (false, eval (.Call (.Attribute e "values" apos) [] [] cpos) X.env) :: starEach [] X.env := by rfl) :
    PE X (.Call (.Name "list" p) [.Call (.Attribute e "values" apos) [] [] cpos] [] pos) (tListValues te) := by
  refine ⟨fun pins s σ H Q I hq => ?_⟩
  refine wpAny_Call_Name_kw (ld_blt I hg hm hv ?_)
  refine PyProof.Rows.callWith_type1 ?_ hs rfl
  rw [hs]
  show wpAny _ _ (spliced ((false, eval (.Call (.Attribute e "values" apos) [] [] cpos) X.env) :: backTo pos (starEach [] X.env))) _ _ s
  refine Calls.spliced_cons ?_
  refine wpAny_Call_method (T := "dict") (id := "dict.values") hbase rfl hline F.plainAttrs_dict F.slot_dict_values F.type_dict_values (thn (he.run pins s σ H _ I hq) fun u s1 ⟨x, H1, I1, rx, d, kvs, ex, hd, q⟩ => ?_)
  subst ex
  obtain rfl : u = Value.ref d := rx
  obtain ⟨hz, hs0, vs, kv, hdo⟩ := I1.hok d _ hd
  obtain ⟨ep, hat⟩ := hdo.dictAt
  have lk : kvs.length = vs.length := Paired.length kv
  have I2 : Inv X pins σ H1 { s1 with heap := s1.heap.push { cls := .type "dict_values", data := .fields #[.ref d] } } := I1.kept (t' := s1.toks) fun b ob q => Heap.get?_push_of_some _ q
  refine ⟨hdo.typeIs, hdo.mapOf.noDict, ?_⟩
  show wpAny _ _ (callWith cpos (.builtin "dict.values") [.ref d] [] []) _ X.xe s1
  refine method_meetsIn F.slot_dict_values F.entry_dict_values rfl (PySem.evalArgs_none ⟨rfl, hdo.typeIs, F.args_dict_values_1 _, _, meets_dict_values (mixKind X.prog X.w) d hs0, ⟨vs, hdo⟩, ?_⟩)
  refine Calls.spliced_nil ?_
  refine PySem.W.kdl_call (PySem.W.kdl_values (knd := mixKind X.prog X.w) (r := s1.heap.objs.size) (d := d) (kvs := vs) (ep := ep)) (I1.ok.hd hc) ⟨⟨_, Heap.get?_push_size _ rfl, rfl, rfl⟩, hat.push _⟩ (by omega) fun h' tk acc c hk hS hacc => ?_
  have hv : Vals (kvs.map (·.2)) acc.toList := vals_at kv (by rw [Array.length_toList]; exact hacc.1) fun j v e => hacc.2 j v (by rw [← Array.getElem?_toList]; exact e)
  refine ⟨.ref _, _, I2.laid (t' := tk) hk (Nat.le_refl _) (show ObjOk X.prog X.w _ _ _ (.lst (kvs.map (·.2))) from ⟨by rw [List.length_map]; exact hz, acc.toList, c, hv, by rw [Array.toArray_toList]; exact hS⟩), rfl, q _ (I2.hok.fresh (Nat.le_refl _))⟩
end
/-! ### xs.extend(d) -/
section
variable {prog : Program} {w : World} {A : Around} {I : Addr} {fp wr : List Addr} {G : Array GenState → Array GenState → Prop} {n : Nat} {P : Nat → Value → Prop} {St : Nat → Shared → Prop}
/-- the same walk, counted from k on -/
theorem walk_shift (W : WalksS prog w A I fp wr G n P St) (k : Nat) (P0 : Nat → Value → Prop) : WalksS prog w A I fp wr G (n + k) (fun i v => if i < k then P0 i v else P (i - k) v) (fun i s => k ≤ i ∧ St (i - k) s) where
  sub := W.sub
  grefl := W.grefl
  gtrans := W.gtrans
  frame := fun i s h' tk h1 h2 h3 => ⟨h1.1, W.frame _ s h' tk h1.2 h2 h3⟩
  item := fun i s Q E hi h q => W.item (i - k) s Q E (by have := h.1; omega) h.2 fun v s' hP hS hm => q v s' (by
    rw [if_neg (by have := h.1; omega)]
    exact hP) ⟨by have := h.1; omega, by
      have e : i + 1 - k = i - k + 1 := by have := h.1; omega
      rw [e]
      exact hS⟩ hm
  done := fun s Q E h q => W.done s Q E (by
    have e : n + k - k = n := by omega
    have := h.2
    rw [e] at this
    exact this) q
  self := fun i s Q E h q => W.self _ s Q E h.2 q
end
section
variable {prog : Program} {w : World} {A : Around} {E : Value → Shared → Prop} {s : Shared} {d : Addr} {K : Type} [DecidableEq K] {knd : KeyKind prog w K} {kvs : List (K × Value)} {ep : Nat}
theorem extend_dict {Q : Value → Shared → Prop} (hh : A.handled = none) (lo : (d == sysModules) = false) (hm : s.heap.DictAt knd d kvs ep) (S : Addr) (xs0 : Array Value) (c₀ : Nat) (hS : s.heap.get? S = some { cls := .type "list", data := .seq xs0 c₀ })
    (hn : kvs.length + xs0.size < sizeLine)
    (hR : ∀ h' tk acc' c', (∀ b o, b ≠ S → s.heap.get? b = some o → h'.get? b = some o) → h'.get? S = some { cls := .type "list", dict := none, data := .seq acc' c', slots := #[] } → ItemsOf (fun i v => if i < xs0.size then xs0[i]? = some v else ∃ k x, kvs[i - xs0.size]? = some (k, x) ∧ knd.is k v = true) acc' (kvs.length + xs0.size) → Q .none { s with heap := h', toks := tk }) :
    wpAny (model prog w) A (call (.builtin "list.extend") [.ref S, .ref d]) Q E s := by
  have hSd : S ≠ d := by
    intro e
    obtain ⟨o, ho, hc⟩ := hm.dictOf.typeIs
    rw [← e, hS] at ho
    cases ho
    exact absurd (show Value.type "list" = Value.type "dict" from hc) (by decide)
  refine wpAny_call (codeAny_call_builtin F.slot_list_extend.plain F.entry_list_extend (F.slot_list_extend.check _ _ _ _ _ _ _ _ ⟨_, hS, rfl⟩ (F.args_list_extend_2 _ _) ?_))
  show wpAny _ A.in1 (Builtin.List.listExtendWith (.ref S) (.ref d) .none) _ _ s
  have KS := PySem.W.kdl_dict (prog := prog) (w := w) (knd := knd) (kvs := kvs) (ep := ep) lo
  obtain ⟨oI, St, hit, W, st⟩ := KS.iter A.in1 s hh hm
  have hSI : S ≠ s.heap.objs.size := Nat.ne_of_lt (Heap.lt_size hS)
  have hSf : S ∉ [s.heap.objs.size, d] := by simp only [List.mem_cons, List.not_mem_nil, or_false, not_or]; exact ⟨hSI, hSd⟩
  unfold Builtin.List.listExtendWith
  refine wpAny_bind (wpAny_typeOf (T := "dict") (KS.type s hm) ?_)
  have h1 : Builtin.List.listSameRef (.ref S) (.ref d) = false := by simp [Builtin.List.listSameRef, hSd]
  simp only [h1, KS.notList, KS.notTuple, Bool.or_false, Bool.false_eq_true, if_false]
  refine wpAny_bind (hit _ _ ?_)
  have hS₁ := Heap.get?_push_of_some oI hS
  refine wpAny_bind (wpAny_holding (KS.hint _ _ _ _ (KS.keep _ _ hm fun b _ o e => Heap.get?_push_of_some _ e) ?_))
  have key : ∀ (h : Heap) (c₁ tk : Nat), St 0 h → (∀ b o, b ≠ S → s.heap.get? b = some o → h.get? b = some o) →
      h.get? S = some { cls := .type "list", data := .seq xs0 c₁ } → codeAny (model prog w) A (.builtin "list.extend.loop" ⟨[.ref S, .ref s.heap.objs.size, .none], []⟩) (wants Q E) { s with heap := h, toks := tk } := by
    intro h c₁ tk hst hk hS₁
    have W2 := walk_shift W.toS xs0.size (fun i v => xs0[i]? = some v)
    refine codeAny_extend_loopS W2 (Nat.le_of_lt hn) S hSf .none kvs.length xs0.size _ xs0 c₁ (by omega) (by omega) ⟨Nat.le_refl _, by rw [Nat.sub_self]; exact hst⟩ hS₁ ⟨rfl, fun j v e => ?_⟩ fun s' acc' c' hmv hS' hacc => ?_
    · have hj : j < xs0.size := by
        obtain ⟨hj, _⟩ := Array.getElem?_eq_some_iff.mp e
        exact hj
      exact Eq.mpr (if_pos hj) e
    · rw [Moved.eq_with hmv]
      refine hR s'.heap s'.toks acc' c' (fun b o hb e => hmv.heap b o (fun hmem => ?_) (hk b o hb e)) hS' hacc
      rcases List.mem_cons.mp hmem with e' | hmem
      · exact hb e'
      · exact absurd (Heap.lt_size e) (by rw [List.mem_singleton.mp hmem]; exact Nat.lt_irrefl _)
  refine wpAny_ite_split (fun _ => ?_) (fun _ => wpAny_pure ⟨plainId_quiet PySem.F.plain_extend_loop _, key _ c₀ _ st (fun b o _ e => Heap.get?_push_of_some _ e) hS₁⟩)
  refine wpAny_bind (wpAny_rule ?_)
  refine wpAny_bind ?_
  show wpAny _ _ (updateSeq S (·.push .none) >>= fun _ => updateSeq S (·.pop)) _ _ _
  have hsz : xs0.size ≤ sizeLine := by omega
  refine wpAny_bind (wpAny_updateSeq (hz := hsz) hS₁ rfl ?_)
  have hS₂ := Heap.get?_update_self (Obj.mapSeq (·.push Value.none)) hS₁ rfl
  refine wpAny_updateSeq (hz := by show (xs0.push Value.none).size ≤ sizeLine; rw [Array.size_push]; omega) hS₂ rfl ?_
  have hS₃ := Heap.get?_update_self (Obj.mapSeq (·.pop)) hS₂ rfl
  refine wpAny_pure ⟨plainId_quiet PySem.F.plain_extend_loop _, key _ _ _ ?_ (fun b o hb e => ?_) (by have h := hS₃; simp only [Obj.mapSeq, Array.pop_push] at h; exact h)⟩
  · refine W.frame 0 _ _ st fun b hb o e => ?_
    have hbS : b ≠ S := fun h => hSf (h ▸ hb)
    exact (Heap.get?_update_other _ _ (Ne.symm hbS)).trans ((Heap.get?_update_other _ _ (Ne.symm hbS)).trans e)
  · exact (Heap.get?_update_other _ _ (Ne.symm hb)).trans ((Heap.get?_update_other _ _ (Ne.symm hb)).trans (Heap.get?_push_of_some _ e))
end
section
variable {X : Cx}
def rExtendD : V → List V → Hp → VK → Prop := fun x vs H Q => ∃ l b xs kvs, x = .ref l ∧ vs = [.ref b] ∧ H l = some (.lst xs) ∧ H b = some (.dK kvs) ∧ xs.length + kvs.length < sizeLine ∧ Q .non (upd H l (.lst (xs ++ kvs.map fun kv => kV kv.1)))
theorem mt_extendD (hc : X.calm = true := by rfl) : MtM X "list.extend" rExtendD := by
  intro pins s σ H x vs v us Q I rx rv h
  obtain ⟨l, b, xs, kvs, rfl, rfl, hH, hB, hz, q⟩ := h
  cases rx
  obtain ⟨u, rfl, ru⟩ := rv.one
  cases ru
  obtain ⟨z, its, n, r, hl, e⟩ := I.lstM hH
  obtain ⟨zz, lo, vs, kv, hdo⟩ := I.hok b _ hB
  obtain ⟨ep, hat⟩ := hdo.dictAt
  have lk : kvs.length = vs.length := Paired.length kv
  have ek : (kvs.map fun kv => kV kv.1) = vs.map fun p => kV p.1 := by
    have e := congrArg (List.map kV) kv.keys
    rw [List.map_map, List.map_map] at e
    exact e
  refine extend_dict (knd := mixKind X.prog X.w) (I.ok.hd hc) lo hat l its.toArray n e (by rw [List.size_toArray]; omega) fun h' tk acc c hk hS hacc => ?_
  have hlen : acc.toList.length = vs.length + its.length := by rw [Array.length_toList, hacc.1, List.size_toArray]
  have t1 : acc.toList.take its.length = its := by
    refine List.ext_getElem? fun i => ?_
    rw [List.getElem?_take]
    by_cases hi : i < its.length
    · rw [if_pos hi]
      obtain ⟨v, hv⟩ : ∃ v, acc.toList[i]? = some v := ⟨_, List.getElem?_eq_getElem (by omega)⟩
      have := hacc.2 i v (by rw [← Array.getElem?_toList]; exact hv)
      have this := Eq.mp (if_pos (by rw [List.size_toArray]; exact hi)) this
      rw [hv, ← this, List.getElem?_toArray]
    · rw [if_neg hi, List.getElem?_eq_none (by omega)]
  have t2 : Vals (vs.map fun p => kV p.1) (acc.toList.drop its.length) := keys_at (by rw [List.length_drop]; omega) fun j v ev => by
    rw [List.getElem?_drop] at ev
    have := hacc.2 (its.length + j) v (by rw [← Array.getElem?_toList]; exact ev)
    have this := Eq.mp (if_neg (by rw [List.size_toArray]; omega)) this
    rw [List.size_toArray, Nat.add_sub_cancel_left] at this
    exact this
  have hv : Vals (xs ++ kvs.map fun kv => kV kv.1) acc.toList := by
    rw [← List.take_append_drop its.length acc.toList, t1, ek]
    exact r.append t2
  refine ⟨.non, upd H l (.lst (xs ++ kvs.map fun kv => kV kv.1)), I.write (x := l) (e := l) (t' := tk) (by rw [hH]; exact trivial) (.inl rfl) (fun b u hb hu => hk b u hb hu) ⟨_, hS⟩ ⟨by rw [List.length_append, List.length_map]; exact Nat.le_of_lt hz, acc.toList, c, hv, by rw [Array.toArray_toList]; exact hS⟩, rfl, q⟩
end
end K14
/-! R4 -/
set_option Elab.async false
set_option linter.all false
set_option maxRecDepth 100000
set_option maxHeartbeats 4000000
/-! R4: sorted(set(xs)), xs a list of texts or of ints. -/
namespace K14
open PySem PySem.Spec PyProof.Rows L2
section
variable {P : Program} {w : World} {K : Type} [DecidableEq K] (knd : PySem.KeyKind P w K) (key : Value → K)
def GoodG (e : Int × Value) : Prop := knd.is (key e.2) e.2 = true ∧ e.1 = knd.hash (key e.2) ∧ e.2.scannable = true
def keyG (e : Int × Value) : K := key e.2
def SetG (h : Heap) (a : Addr) (S : K → Prop) (n : Nat) : Prop :=
  ∃ o es ep t, h.get? a = some o ∧ o.ExactSet ∧ o.data = .set es ep t ∧ (∀ e ∈ es.toList, GoodG knd key e) ∧ (es.toList.map (keyG key)).Nodup ∧ (∀ k, S k ↔ k ∈ es.toList.map (keyG key)) ∧
    es.size < scanBound ∧ t.fits es.size = true ∧ es.size = n ∧ Ris t.place.toList ∧ (w.params.followText "set-order" = true ∨ t.led = true)
variable {knd key} {h h' : Heap} {a : Addr} {S : K → Prop} {n : Nat}
theorem SetG.at (R : SetG knd key h a S n) (k : ∀ o, h.get? a = some o → h'.get? a = some o) : SetG knd key h' a S n := by
  obtain ⟨o, es, ep, t, ho, r⟩ := R
  exact ⟨o, es, ep, t, k o ho, r⟩
theorem SetG.congr {S' : K → Prop} (R : SetG knd key h a S n) (e : ∀ k, S' k ↔ S k) : SetG knd key h a S' n := by
  have q : S' = S := funext fun k => propext (e k)
  rw [q]
  exact R
theorem goodG_elems {l : List (Int × Value)} (g : ∀ e ∈ l, GoodG knd key e) : ElemsOf knd l := fun e he => ⟨⟨key e.2, (g e he).1, (g e he).2.1⟩, (g e he).2.2⟩
theorem goodG_is {e : Int × Value} (g : GoodG knd key e) (k : K) : knd.is k e.2 = true ↔ keyG key e = k := by
  constructor
  · intro h
    exact knd.inj e.2 _ _ g.1 h
  · intro h
    rw [← h]
    exact g.1
theorem goodG_mem {l : List (Int × Value)} (g : ∀ e ∈ l, GoodG knd key e) (k : K) : k ∈ l.map (keyG key) ↔ ∃ e ∈ l, knd.is k e.2 = true := by
  rw [List.mem_map]
  constructor
  · rintro ⟨e, he, q⟩
    exact ⟨e, he, (goodG_is (g e he) k).2 q⟩
  · rintro ⟨e, he, q⟩
    exact ⟨e, he, (goodG_is (g e he) k).1 q⟩
end
section
variable {P : Program} {w : World} {K : Type} [DecidableEq K] {knd : PySem.KeyKind P w K} {key : Value → K} {A : Around} {E : Value → Shared → Prop} {s : Shared} {a : Addr} {S : K → Prop} {n : Nat}
theorem setG_add_tail {g : Bool → Sem Unit} (hg : ∀ (b : Bool) (s₁ : Shared) (Q' : Unit → Shared → Prop), Q' () s₁ → wpAny (model P w) A (g b) Q' E s₁)
    {o : Obj} {es : Array (Int × Value)} {ep : Nat} {t : SetTable} (ho : s.heap.get? a = some o) (hex : o.ExactSet) (hd : o.data = .set es ep t)
    {es1 : Array (Int × Value)} {t2 : SetTable} {S' : K → Prop} (g1 : ∀ e ∈ es1.toList, GoodG knd key e) (nd1 : (es1.toList.map (keyG key)).Nodup) (m1 : ∀ k, S' k ↔ k ∈ es1.toList.map (keyG key))
    (hb1 : es1.size < scanBound) (hf2 : t2.fits es1.size = true) (hr : Ris t2.place.toList) (hl : w.params.followText "set-order" = true ∨ t2.led = true) {wasDummy : Bool} {R : Option Bool → Shared → Prop}
    (hR : ∀ h', Heap.SameBut a s.heap h' → SetG knd key h' a S' es1.size → R (some true) { s with heap := h' }) :
    wpAny (model P w) A (do
        storeSet a es1 t2
        if (!wasDummy && t2.tooFull) = true then do
            g (relayAll t2 es1 (SetTable.grown es1.size)).2.2
            storeSet a (relayAll t2 es1 (SetTable.grown es1.size)).1 (relayAll t2 es1 (SetTable.grown es1.size)).2.1
            pure (some true)
          else pure (some true)) R E s := by
  refine wpAny_bind (wpAny_storeSet_of ho hd ?_ (fits_of_scanBound hb1))
  have ho1 := store_at (es' := es1) (t' := t2) ho hd
  have sb1 := Heap.SameBut.update s.heap a (Obj.putSet es1 t2)
  split
  · have pm := relayAll_perm t2 es1 (SetTable.grown es1.size)
    have hf3 := relayAll_fits t2 es1 (SetTable.grown es1.size)
    have hr3 := relayAll_ris t2 es1 (SetTable.grown es1.size)
    have hl3 := relayAll_led t2 es1 (SetTable.grown es1.size)
    generalize relayAll t2 es1 (SetTable.grown es1.size) = Z at pm hf3 hr3 hl3 ⊢
    obtain ⟨es2, t3, gave⟩ := Z
    dsimp only at pm hf3 hr3 hl3 ⊢
    have hsz : es2.size = es1.size := by rw [← Array.length_toList, pm.length_eq, Array.length_toList]
    have hb2 : es2.size < scanBound := by rw [hsz]; exact hb1
    refine wpAny_bind (hg _ _ _ ?_)
    refine wpAny_bind (wpAny_storeSet_of ho1 rfl ?_ (fits_of_scanBound hb2))
    have ho2 := store_at (es' := es2) (t' := t3) ho1 rfl
    refine wpAny_pure (hR _ (sb1.trans (Heap.SameBut.update _ a _)) ?_)
    exact ⟨_, es2, _, t3, ho2, hex, rfl, fun e he => g1 e (pm.mem_iff.mp he), (pm.map (keyG key)).nodup_iff.mpr nd1, fun k => (m1 k).trans (pm.map (keyG key)).mem_iff.symm, hb2, hf3, hsz, hr3,
      hl.imp id fun z => by rw [hl3]; exact z⟩
  · exact wpAny_pure (hR _ sb1 ⟨_, es1, _, t2, ho1, hex, rfl, g1, nd1, m1, hb1, hf2, rfl, hr, hl⟩)
theorem setG_add_hashed {x : Value} {Q : Bool → Shared → Prop} (R : SetG knd key s.heap a S n) (hkey : knd.is (key x) x = true) (hsc : x.scannable = true) (room : n + 1 < scanBound)
    (hQ : ∀ b h' c, Heap.SameBut a s.heap h' → SetG knd key h' a (fun j => S j ∨ j = key x) c → c ≤ n + 1 → Q b { s with heap := h' }) :
    wpAny (model P w) A (setAddHashed a x (knd.hash (key x))) Q E s := by
  obtain ⟨o, es, ep, t, ho, hex, hd, g, nd, hm, hb, hf, hn, hr, hl⟩ := R
  have hel : ElemsOf knd es.toList := goodG_elems g
  unfold setAddHashed setAddHashedIn
  refine wpAny_holding (wpAny_bind (wpAny_setState_of ho hd hf ?_))
  dsimp only
  rw [byScan_of hsc hb hel]
  simp only [↓reduceIte]
  unfold setAddByScan
  refine wpAny_bind ?_
  refine wpAny_bind (wpAny_rule ?_)
  refine wpAny_bind (wpAny_setScan_of hkey ho hd hf hel ?_)
  cases hfi : List.findIdx? (fun e => knd.is (key x) e.2) es.toList with
  | some j =>
    dsimp only
    obtain ⟨hj, pj, _⟩ := List.findIdx?_eq_some_iff_getElem.mp hfi
    have hSk : S (key x) := (hm _).2 ((goodG_mem (knd := knd) g _).2 ⟨es.toList[j], List.getElem_mem hj, pj⟩)
    refine wpAny_pure (wpAny_pure ?_)
    exact hQ _ s.heap n (Heap.SameBut.refl a s.heap) ⟨o, es, ep, t, ho, hex, hd, g, nd, fun i => by
      rw [← hm i]
      exact ⟨fun z => z.elim id (fun e => e ▸ hSk), .inl⟩, hb, hf, hn, hr, hl⟩ (Nat.le_succ _)
  | none =>
    dsimp only
    have hnk : key x ∉ es.toList.map (keyG key) := fun z => by
      obtain ⟨e, he, q⟩ := (goodG_mem (knd := knd) g _).1 z
      have c := List.findIdx?_eq_none_iff.mp hfi e he
      rw [q] at c
      cases c
    have hgw : ∀ (b : Bool) {s₁ : Shared} {Q' : Unit → Shared → Prop}, Q' () s₁ → wpAny (model P w) A (match b with | true => rule "set.scan.the-table-gave-way" | false => pure ()) Q' E s₁ :=
      fun b s₁ Q' q => by cases b <;> first | exact wpAny_pure q | exact wpAny_rule q
    have pm := layNew_perm t es (knd.hash (key x)) x
    have hf1 := layNew_fits t es (knd.hash (key x)) x
    have hr1 := layNew_ris t es (knd.hash (key x)) x hr
    have hl1 := layNew_led t es (knd.hash (key x)) x
    generalize layNew t es (knd.hash (key x)) x = Z at pm hf1 hr1 hl1 ⊢
    obtain ⟨es1, t1, wasDummy, gave⟩ := Z
    dsimp only at pm hf1 hr1 hl1 ⊢
    rw [Array.toList_push] at pm
    have pc : es1.toList.Perm ((knd.hash (key x), x) :: es.toList) := pm.trans (List.perm_append_singleton _ _)
    have pk : (es1.toList.map (keyG key)).Perm (key x :: es.toList.map (keyG key)) := pc.map (keyG key)
    have g1 : ∀ e ∈ es1.toList, GoodG knd key e := fun e he => by
      rcases List.mem_cons.mp (pc.mem_iff.mp he) with z | z
      · rw [z]; exact ⟨hkey, rfl, hsc⟩
      · exact g e z
    have nd1 : (es1.toList.map (keyG key)).Nodup := pk.nodup_iff.mpr (List.nodup_cons.mpr ⟨hnk, nd⟩)
    have m1 : ∀ i, (S i ∨ i = key x) ↔ i ∈ es1.toList.map (keyG key) := fun i => by
      rw [hm i, pk.mem_iff, List.mem_cons]
      exact Or.comm
    have hsz : es1.size = n + 1 := by rw [← Array.length_toList, pc.length_eq, List.length_cons, Array.length_toList, hn]
    have hb1 : es1.size < scanBound := by rw [hsz]; exact room
    have hled : w.params.followText "set-order" = true ∨ t1.led = true := hl.imp id fun z => by rw [hl1]; exact z
    have fin : ∀ h', Heap.SameBut a s.heap h' → SetG knd key h' a (fun j => S j ∨ j = key x) es1.size → Q true { s with heap := h' } := fun h' sb r => hQ _ h' _ sb r (by rw [hsz]; exact Nat.le_refl _)
    refine wpAny_bind (hgw _ ?_)
    split
    · refine wpAny_bind ?_
      rw [hashByValue_scannable 8 hsc]
      refine wpAny_pure ?_
      refine setG_add_tail (knd := knd) (key := key) ?_ ho hex hd g1 nd1 m1 hb1 ?_ ?_ ?_ ?_
      · intro b s₁ Q' q; cases b <;> first | exact wpAny_pure q | exact wpAny_rule q
      · first | (split <;> first | exact hf1 | exact SetTable.fits_plain_off hf1) | exact hf1
      · first | (split <;> exact hr1) | exact hr1
      · first | (split <;> exact hled) | exact hled
      · intro h' sb r; dsimp only; exact wpAny_pure (fin h' sb r)
    · refine wpAny_bind (wpAny_pure ?_)
      simp only [↓reduceIte]
      refine setG_add_tail (knd := knd) (key := key) ?_ ho hex hd g1 nd1 m1 hb1 hf1 hr1 hled ?_
      · intro b s₁ Q' q; cases b <;> first | exact wpAny_pure q | exact wpAny_rule q
      · intro h' sb r; dsimp only; exact wpAny_pure (fin h' sb r)
theorem setG_new {h : Heap} {a : Addr} {ks : List K} (ho : h.get? a = some { cls := .type "set", dict := none, data := .set #[] 0 (.fresh 0 0 (!w.params.followText "set-order")) }) : SetG knd key h a (fun j => j ∈ ks.take 0) 0 :=
  ⟨_, #[], 0, _, ho, ⟨rfl, rfl, rfl⟩, rfl, (fun e he => by simp at he), (by simp), (fun k => by simp), (by decide), (by rfl), rfl, List.Pairwise.nil, by
    show _ ∨ (!w.params.followText "set-order") = true
    cases w.params.followText "set-order"
    · exact .inr rfl
    · exact .inl rfl⟩
theorem setG_update {I : Addr} {fp wr : List Addr} {G : Array GenState → Array GenState → Prop} {n : Nat} {Pv : Nat → Value → Prop} {St : Nat → Shared → Prop} {R : Result → Shared → Prop}
    (W : WalksS P w A.in1 I fp wr G n Pv St) (T : Addr) (hSf : T ∉ fp) (ks : List K) (hn : n = ks.length) (hb : ks.length + 1 < scanBound) (hval : ∀ i v, Pv i v → ks[i]? = some (key v) ∧ knd.is (key v) v = true ∧ v.scannable = true) :
    ∀ (k i : Nat) (s : Shared), n - i = k → i ≤ n → St i s → (∃ c, c ≤ i ∧ SetG knd key s.heap T (fun j => j ∈ ks.take i) c) →
      (∀ s' c, Moved (T :: wr) G s s' → c ≤ n → SetG knd key s'.heap T (fun j => j ∈ ks) c → R (.ok (.ret .none)) s') →
      codeAny (model P w) A (.builtin "set.update.loop" ⟨[.ref T, .ref I], []⟩) R s := by
  have hSw : T ∉ wr := fun h => hSf (W.sub _ h)
  have hsub : ∀ b ∈ wr, b ∈ T :: wr := fun b hb => List.mem_cons_of_mem _ hb
  intro k
  induction k with
  | zero =>
    intro i s hk' hi hst ⟨c, hc, hS⟩ hR
    have hin : i = n := by omega
    subst hin
    refine codeAny_builtin F.entry_set_update_loop ?_
    rw [Around.under_plainId F.plain_set_update_loop _]
    show wpAny _ A.in1 (pyNext (.ref I) >>= _) _ _ s
    refine wpAny_bind (W.done s _ _ hst fun s' hm => ?_)
    show wpAny _ A.in1 (ret Value.none) _ _ s'
    have e : ks.take i = ks := List.take_of_length_le (by omega)
    rw [e] at hS
    exact wpAny_pure (hR s' c (hm.mono hsub) hc (hS.at fun o e => hm.heap T o hSw e))
  | succ k ih =>
    intro i s hk' hi hst ⟨c, hc, hS⟩ hR
    have hlt : i < n := by omega
    refine codeAny_builtin F.entry_set_update_loop ?_
    rw [Around.under_plainId F.plain_set_update_loop _]
    show wpAny _ A.in1 (pyNext (.ref I) >>= _) _ _ s
    refine wpAny_bind (W.item i s _ _ hlt hst fun v s' hP hst' hm => ?_)
    obtain ⟨hz, hkey, hsc⟩ := hval i v hP
    have hS' : SetG knd key s'.heap T (fun j => j ∈ ks.take i) c := hS.at fun o e => hm.heap T o hSw e
    show wpAny _ A.in1 (holding [v] (setAdd T v) >>= _) _ _ s'
    refine wpAny_bind (wpAny_holding ?_)
    unfold setAdd
    refine wpAny_holding ?_
    refine wpAny_bind (knd.pyHash (k := key v) hkey ?_)
    refine setG_add_hashed (knd := knd) (key := key) (s := { s' with toks := s'.toks + 1 }) hS' hkey hsc (by omega) fun _ h' c3 hsb hS2 hc3 => ?_
    have hS3 : SetG knd key h' T (fun j => j ∈ ks.take (i + 1)) c3 := hS2.congr fun j => by
      rw [List.take_add_one, hz]
      simp [List.mem_append]
    refine wpAny_pure ⟨plainId_quiet F.plain_set_update_loop _, ih (i + 1) _ (by omega) hlt (W.frame _ s' _ _ hst' (Nat.le_succ _) fun b hb o e => ?_) ⟨_, by omega, hS3⟩ fun s'' c2 hm'' hc'' hS'' => ?_⟩
    · rw [hsb.2 b (fun h : b = T => hSf (by rw [← h]; exact hb))]; exact e
    · refine hR s'' c2 (Moved.trans W.gtrans ((hm.mono hsub).then_heap (Nat.le_succ _) fun b o hb e => ?_) hm'') hc'' hS''
      rw [hsb.2 b (fun h : b = T => hb (by rw [h]; exact List.mem_cons_self))]; exact e
set_option maxRecDepth 100000 in
set_option maxHeartbeats 3200000 in
theorem call_set_lst {l : Addr} {items : Array Value} (ks : List K) {Q : Value → Shared → Prop} (hh : A.handled = none) (hl : s.heap.IsList l items) (hisz : items.size = ks.length) (hval : ∀ (i : Nat) (v : Value), items[i]? = some v → ks[i]? = some (key v) ∧ knd.is (key v) v = true ∧ v.scannable = true) (hb : ks.length + 1 < scanBound)
    (h : ∀ (h' : Heap) (tk c : Nat), SetG knd key h' s.heap.objs.size (fun j => j ∈ ks) c → c ≤ ks.length → (∀ b o, s.heap.get? b = some o → h'.get? b = some o) → Q (.ref s.heap.objs.size) { s with heap := h', toks := tk }) :
    wpAny (model P w) A (call (.type "set") [.ref l]) Q E s := by
  obtain ⟨c, tl, hmro⟩ := F.called_set.mro
  have hmade := F.called_set.made
  have hsub := F.called_set.sub
  refine wpAny_call (codeAny_of_tree ?_)
  show wpAny _ _ (callAny (.type "set") _) _ _ _
  refine wpAny_pure ⟨Code.quiet_builtin _ (by decide +kernel), codeAny_builtin F.entry_type_call ?_⟩
  rw [Around.under_plain (weight_type_call_type "set" [.ref l] []) rfl]
  have h1 := F.called_set.notType
  have h2 := F.called_set.canCreate
  have hct := F.typeCall_set_1 (.ref l)
  repeat (any_goals (first | assumption | wp_step))

  refine codeAny_mono (code_set_led1 (.ref l) (E := E) (Q₁ := fun obj s₁ => obj = .ref s.heap.objs.size ∧ s₁ = { s with heap := s.heap.push { cls := .type "set", dict := none, data := .set #[] 0 (.fresh 0 0 (!w.params.followText "set-order")) } }) ⟨rfl, rfl⟩) fun r s₁ hr => ?_
  cases r with
  | error e => exact hr
  | ok fl =>
    cases fl with
    | ret obj =>
      obtain ⟨rfl, rfl⟩ := hr
      have hS : (s.heap.push { cls := .type "set", dict := none, data := .set #[] 0 (.fresh 0 0 (!w.params.followText "set-order")) }).get? s.heap.objs.size = some { cls := .type "set", dict := none, data := .set #[] 0 (.fresh 0 0 (!w.params.followText "set-order")) } := Heap.get?_push_size _ rfl
      have hT : Shared.TypeIs { s with heap := s.heap.push { cls := .type "set", dict := none, data := .set #[] 0 (.fresh 0 0 (!w.params.followText "set-order")) } } (.ref s.heap.objs.size) "set" := ⟨_, hS, rfl⟩
      have hli := F.called_set.init.lookup
      have hbi := F.called_set.init.bind (.ref s.heap.objs.size)
      repeat (any_goals (first | assumption | wp_step))

      refine codeAny_mono (codeAny_call_builtin (R := wants (fun r s₂ => r = .none ∧ ∃ h' tk c, s₂ = { s with heap := h', toks := tk } ∧ SetG knd key h' s.heap.objs.size (fun j => j ∈ ks) c ∧ c ≤ ks.length ∧
          (∀ b o, s.heap.get? b = some o → h'.get? b = some o)) E) F.called_set.init.plain F.entry_set_init (check_set_init_1 hT ?_)) fun r₂ s₂ hr₂ => ?_
      · obtain ⟨ol, hol, hcl, nl, hdl⟩ := hl
        obtain ⟨ocls, odict, odata, oslots⟩ := ol
        simp only at hcl hdl
        subst hcl; subst hdl
        have hol' : (s.heap.push { cls := .type "set", dict := none, data := .set #[] 0 (.fresh 0 0 (!w.params.followText "set-order")) }).get? l = some { cls := .type "list", dict := odict, data := .seq items nl, slots := oslots } := Heap.get?_push_of_some _ hol
        have hsls := F.sub_list_set
        have hslf := F.sub_list_frozenset
        have hne : (Value.type "list" == Value.type "dict") = false := by decide
        have hl1 : (s.heap.push { cls := .type "set", dict := none, data := .set #[] 0 (.fresh 0 0 (!w.params.followText "set-order")) }).IsList l items := ⟨_, hol', rfl, nl, rfl⟩
        unfold Builtin.«set.__init__» noKeywords Builtin.Frozenset.updateFrom
        generalize hPI : pyIter = PI
        wp_walk
        subst hPI

        refine wpAny_pyIter_list hl1 ?_
        refine wpAny_bind (wpAny_runValue ?_)
        have hlS : l < s.heap.objs.size := Heap.lt_size hol
        have hh3 : A.in1.in1.in1.handled = none := by simp [hh]
        have hz1 : (s.heap.push { cls := .type "set", dict := none, data := .set #[] 0 (.fresh 0 0 (!w.params.followText "set-order")) }).objs.size = s.heap.objs.size + 1 := Heap.size_push ..
        have hneI : l ≠ (s.heap.push { cls := .type "set", dict := none, data := .set #[] 0 (.fresh 0 0 (!w.params.followText "set-order")) }).objs.size := by
          rw [Heap.size_push]; exact Nat.ne_of_lt (Nat.lt_succ_of_lt hlS)
        have hSf : s.heap.objs.size ∉ [(s.heap.push { cls := .type "set", dict := none, data := .set #[] 0 (.fresh 0 0 (!w.params.followText "set-order")) }).objs.size, l] := by
          rw [Heap.size_push]; simp only [List.mem_cons, List.mem_singleton, List.not_mem_nil, or_false, not_or]
          exact ⟨Nat.ne_of_lt (Nat.lt_succ_self _), Nat.ne_of_gt hlS⟩
        refine setG_update (knd := knd) (key := key) ((Walks.list hh3 _ l hneI items).toS) s.heap.objs.size
          hSf ks hisz hb hval (items.size - 0) 0 _ (by omega) (Nat.zero_le _)
          ⟨⟨_, Heap.get?_push_size _ rfl, rfl, rfl⟩, (hl1.push _)⟩ ?hS0 ?hR
        case hS0 =>
          have hget : ((s.heap.push { cls := .type "set", dict := none, data := .set #[] 0 (.fresh 0 0 (!w.params.followText "set-order")) }).push { cls := .type "list_iterator", data := .fields #[.ref l, .int 0 0] }).get? s.heap.objs.size
              = some { cls := .type "set", dict := none, data := .set #[] 0 (.fresh 0 0 (!w.params.followText "set-order")) } := Heap.get?_push_of_some _ hS
          exact ⟨0, Nat.le_refl 0, setG_new hget⟩
        case hR =>
          intro s' c' hm hc' hS'
          obtain ⟨h', g2, d', tk', os'⟩ := s'
          have eg : g2 = s.gens := hm.gens
          have ed : d' = s.drawn := hm.drawn
          have eo : os' = s.os := hm.os
          subst eg; subst ed; subst eo
          show wpAny _ _ _ _ _ _
          refine wpAny_pure ?_
          show wpAny _ _ (ret Value.none) _ _ _
          rw [hisz] at hc'
          refine wpAny_pure ⟨rfl, h', tk', c', rfl, hS', hc', fun b o e => ?_⟩
          have hb0 : b < s.heap.objs.size := Heap.lt_size e
          have hb1 : b ≠ s.heap.objs.size := Nat.ne_of_lt hb0
          have hb2 : b ≠ (s.heap.push { cls := .type "set", dict := none, data := .set #[] 0 (.fresh 0 0 (!w.params.followText "set-order")) }).objs.size := by
            rw [Heap.size_push]; exact Nat.ne_of_lt (Nat.lt_succ_of_lt hb0)
          exact hm.heap b o (by simp only [List.mem_cons, List.mem_singleton, List.not_mem_nil, or_false, not_or]; exact ⟨hb1, hb2⟩) (Heap.get?_push_of_some _ (Heap.get?_push_of_some _ e))

      · cases r₂ with
        | error e => exact hr₂
        | ok fl₂ =>
          cases fl₂ with
          | ret r =>
            obtain ⟨rfl, h', tk, c', rfl, hS', hc', hk'⟩ := hr₂
            repeat (any_goals (first | assumption | wp_step))
            exact h _ _ _ hS' hc' hk'
          | _ => exact hr₂.elim
    | _ => exact hr.elim
theorem sortedG {Q : Value → Shared → Prop} (R : SetG knd key s.heap a S n) (hh : A.handled = none) (h64 : n < 64) (good : List K → Prop)
    (srt : ∀ (vs : List Value) (s1 : Shared) (A1 : Around) (b : Addr) (c0 : Nat) (Q1 : Fin → Shared → Prop), (∀ v ∈ vs, knd.is (key v) v = true) → vs.length < 64 → s1.heap.get? b = some (seqObj "list" vs.toArray c0) →
      (∀ out : Array Value, (∀ v ∈ out.toList, knd.is (key v) v = true) → (out.toList.map key).Perm (vs.map key) → good (out.toList.map key) → Q1 (.done (.ret .none)) { s1 with heap := sortedHeap s1.heap b vs out }) → wpAny (model P w) A1 (Builtin.«list.sort» ⟨[.ref b], []⟩) Q1 E s1)
    (hQ : ∀ s' p (out : Array Value) (c : Nat), (∀ b o, s.heap.get? b = some o → s'.heap.get? b = some o) → s'.gens = s.gens → s'.os = s.os → s.heap.objs.size ≤ p →
      s'.heap.get? p = some (seqObj "list" out c) → (∀ v ∈ out.toList, knd.is (key v) v = true) → (out.toList.map key).Nodup → good (out.toList.map key) → (∀ k, k ∈ out.toList.map key ↔ S k) → out.toList.length = n → Q (.ref p) s') :
    wpAny (model P w) A (call (.builtin "sorted") [.ref a]) Q E s := by
  obtain ⟨o, es, ep, t, ho, hex, hd, g, nd, hm, hb, hf, hn, hr, hl⟩ := R
  refine Calls.call_function_entry kind_sorted plain_sorted entry_sorted (args_sorted1 _) ?_
  unfold Builtin.«sorted»
  refine wpAny_bind (m := checkCount "sorted" 1 1 _) (wpAny_pure ?_)
  refine wpAny_bind (collect_set (A := A.in1) hh ⟨o, ho, hex.1, hd⟩ hf hb hr hl fun s1 vs k1 hz g1 o1 pm => ?_)
  have hvl : vs.length = n := by rw [pm.length_eq, List.length_map, Array.length_toList]; exact hn
  have hI : ∀ v ∈ vs, knd.is (key v) v = true := fun v hv => by
    obtain ⟨e, he, q⟩ := List.mem_map.mp (pm.mem_iff.mp hv)
    rw [← q]
    exact (g e he).1
  have pk : (vs.map key).Perm (es.toList.map (keyG key)) := by
    have q := pm.map key
    rw [List.map_map] at q
    exact q
  refine wpAny_bind (wpAny_newList ?_ (by rw [hvl, sizeLine_eq]; omega))
  have hoL : (s1.heap.push (seqObj "list" vs.toArray 0)).get? s1.heap.objs.size = some (seqObj "list" vs.toArray 0) := Heap.get?_push_size _ rfl
  refine wpAny_bind (wpAny_holding (wpAny_call_entry slot_list_sort ⟨_, hoL, rfl⟩ entry_list_sort (srt vs { s1 with heap := s1.heap.push (seqObj "list" vs.toArray 0) } _ _ _ _ hI (by rw [hvl]; exact h64) hoL fun out a0 a1 a2 => ⟨_, rfl, ?_⟩) (args_list_sort _)))
  obtain ⟨c, hc⟩ := sortedHeap_at (vs := vs) (out := out) hoL
  have pn : (out.toList.map key).Perm (es.toList.map (keyG key)) := a1.trans pk
  refine wpAny_pure ⟨_, rfl, hQ _ s1.heap.objs.size out c (fun b u e => ?_) g1 o1 hz hc a0 (pn.nodup_iff.mpr nd) a2 (fun k => by rw [pn.mem_iff, ← hm k]) ?_⟩
  · have q := k1 b u e
    have hlt := Heap.lt_size q
    show (sortedHeap (s1.heap.push (seqObj "list" vs.toArray 0)) s1.heap.objs.size vs out).get? b = some u
    rw [sortedHeap_old (Nat.ne_of_lt hlt) (by rw [size_push']; exact Nat.lt_succ_of_lt hlt)]
    exact Heap.get?_push_of_some _ q
  · have := a1.length_eq
    rw [List.length_map, List.length_map] at this
    omega
end
/-! ### texts, ints -/
def keyS (v : Value) : Str := match v with
  | .str x _ => x
  | _ => Str.empty
def keyI (v : Value) : Int := match v with
  | .int k _ => k
  | _ => 0
section
variable {P : Program} {w : World} {A : Around} {E : Value → Shared → Prop} {s : Shared}
theorem is_strs : ∀ {us : List Value}, (∀ v ∈ us, (PySem.strKind P w).is (keyS v) v = true) → (∀ v ∈ us, ∃ x t, v = Value.str x t) → StrsAre us (us.map keyS)
  | [], _, _ => .nil
  | v :: us, h, h2 => by
    obtain ⟨x, t, rfl⟩ := h2 v List.mem_cons_self
    exact .cons x t (is_strs (fun u hu => h u (List.mem_cons_of_mem _ hu)) fun u hu => h2 u (List.mem_cons_of_mem _ hu))
theorem is_str_of {v : Value} {x : Str} (h : (PySem.strKind P w).is x v = true) : ∃ t, v = Value.str x t := by
  obtain ⟨t, rfl⟩ := Value.isStrOf_shape h
  exact ⟨t, rfl⟩
theorem is_ints : ∀ {us : List Value}, (∀ v ∈ us, (PySem.intKind P w).is (keyI v) v = true) → IntsAre us (us.map keyI)
  | [], _ => .nil
  | v :: us, h => by
    obtain ⟨t, e⟩ := Value.isInt_shape (show Value.isInt (keyI v) v = true from h v List.mem_cons_self)
    rw [e]
    exact .cons _ t (is_ints fun u hu => h u (List.mem_cons_of_mem _ hu))
theorem strs_key : ∀ {us : List Value} {xs : List Str}, StrsAre us xs → us.map keyS = xs := by
  intro us xs h
  induction h with
  | nil => rfl
  | cons x t h ih => rw [List.map_cons, ih]; rfl
theorem ints_key : ∀ {us : List Value} {xs : List Int}, IntsAre us xs → us.map keyI = xs := by
  intro us xs h
  induction h with
  | nil => rfl
  | cons x t h ih => rw [List.map_cons, ih]; rfl
theorem strs_is : ∀ {us : List Value} {xs : List Str}, StrsAre us xs → ∀ v ∈ us, (PySem.strKind P w).is (keyS v) v = true := by
  intro us xs h
  induction h with
  | nil => exact fun v hv => nomatch hv
  | cons x t h ih =>
    intro v hv
    rcases List.mem_cons.mp hv with e | hv
    · rw [e]
      exact PySem.strKind_is _ _ _ _
    · exact ih v hv
theorem ints_is : ∀ {us : List Value} {xs : List Int}, IntsAre us xs → ∀ v ∈ us, (PySem.intKind P w).is (keyI v) v = true := by
  intro us xs h
  induction h with
  | nil => exact fun v hv => nomatch hv
  | cons x t h ih =>
    intro v hv
    rcases List.mem_cons.mp hv with e | hv
    · rw [e]
      exact PySem.intKind_is _ _ _ _
    · exact ih v hv
theorem srt_strs (vs : List Value) (s1 : Shared) (A1 : Around) (b : Addr) (c0 : Nat) (Q1 : PySem.Fin → Shared → Prop) (hI : ∀ v ∈ vs, (PySem.strKind P w).is (keyS v) v = true) (h64 : vs.length < 64) (ho : s1.heap.get? b = some (seqObj "list" vs.toArray c0))
    (h : ∀ out : Array Value, (∀ v ∈ out.toList, (PySem.strKind P w).is (keyS v) v = true) → (out.toList.map keyS).Perm (vs.map keyS) → sortedS (out.toList.map keyS) = true → Q1 (.done (.ret .none)) { s1 with heap := sortedHeap s1.heap b vs out }) : wpAny (model P w) A1 (Builtin.«list.sort» ⟨[.ref b], []⟩) Q1 E s1 := by
  have hS : StrsAre vs (vs.map keyS) := is_strs hI fun v hv => by
    obtain ⟨t, e⟩ := is_str_of (hI v hv)
    exact ⟨_, t, e⟩
  refine list_sort_treeK strKind_oneLt ho hS.keysOf (fun v₁ v₂ rest e => keyKind_strs (by rw [← e]; exact hS)) h64 fun st' hp hs => ?_
  obtain ⟨ss', h1, h2, h3⟩ := sorted_out_str hS hp hs
  exact h _ (strs_is h1) (by rw [strs_key h1]; exact h2) (by rw [strs_key h1]; exact h3)
theorem srt_ints (vs : List Value) (s1 : Shared) (A1 : Around) (b : Addr) (c0 : Nat) (Q1 : PySem.Fin → Shared → Prop) (hI : ∀ v ∈ vs, (PySem.intKind P w).is (keyI v) v = true) (h64 : vs.length < 64) (ho : s1.heap.get? b = some (seqObj "list" vs.toArray c0))
    (h : ∀ out : Array Value, (∀ v ∈ out.toList, (PySem.intKind P w).is (keyI v) v = true) → (out.toList.map keyI).Perm (vs.map keyI) → (out.toList.map keyI).Pairwise (· ≤ ·) → Q1 (.done (.ret .none)) { s1 with heap := sortedHeap s1.heap b vs out }) : wpAny (model P w) A1 (Builtin.«list.sort» ⟨[.ref b], []⟩) Q1 E s1 := by
  refine list_sort_tree ho (is_ints hI) h64 fun out ns' h1 h2 h3 => ?_
  exact h out (ints_is h1) (by rw [ints_key h1]; exact h2) (by rw [ints_key h1]; exact h3)
end
/-! ### the rules -/
section
variable {X : Cx}
theorem inv_lay2 {pins : List (Addr × Obj)} {σ : L2.St} {H : Hp} {s s' : Shared} {p : Addr} {o : HO} (I : L2.Inv X pins σ H s) (k : ∀ b o, s.heap.get? b = some o → s'.heap.get? b = some o) (g : s'.gens = s.gens) (o2 : s'.os = s.os) (hp : s.heap.objs.size ≤ p) (ho : ObjOk X.prog X.w (upd H p o) s'.heap p o) :
    L2.Inv X pins σ (upd H p o) s' :=
  I.call' (ch := []) o2 (Un.laid k hp (I.hok.fresh hp)) (I.hok.laid k hp ho) (by rw [g]; exact I.bare) (fun _ z => nomatch z)
def tSortSet (K : PySem.W.Frag) (te : TE) : TE := fun σ H Q => te σ H fun x H1 => ∃ (l : Addr) (xs : List Str), x = .ref l ∧ SqL K H1 l (xs.map V.str) ∧ xs.length < 64 ∧ ∀ (ys : List Str) (p : Addr), sortedS ys = true → ys.Nodup → (∀ k, k ∈ ys ↔ k ∈ xs) → H1 p = none → Q (.ref p) (upd H1 p (.lst (ys.map V.str)))
def tSortSetI (K : PySem.W.Frag) (te : TE) : TE := fun σ H Q => te σ H fun x H1 => ∃ (l : Addr) (xs : List Int), x = .ref l ∧ SqL K H1 l (xs.map V.int) ∧ xs.length < 64 ∧ ∀ (ys : List Int) (p : Addr), ys.Pairwise (· ≤ ·) → ys.Nodup → (∀ k, k ∈ ys ↔ k ∈ xs) → H1 p = none → Q (.ref p) (upd H1 p (.lst (ys.map V.int)))
theorem pe_sortedSet {a : Expr} {ta : TE} {p p2 q pos : Pos} (ha : PE X a ta) (hg : Gl X "sorted") (hm : X.mg "sorted" = none) (hg2 : Gl X "set") (hm2 : X.mg "set" = none) (hc : X.calm = true := by rfl)
    (na : starEach [a] X.env = (false, eval a X.env) :: starEach [] X.env := by rfl) : PE X (.Call (.Name "sorted" p) [.Call (.Name "set" p2) [a] [] q] [] pos) (tSortSet X.K ta) := by
  refine ⟨fun pins s σ H Q I h => ?_⟩
  refine Call_ (ld_blt I hg hm bo_sorted ?_)
  refine PyProof.Rows.callWith_builtin1 (PyProof.Rows.args_cons ?_ rfl) rfl rfl
  refine Call_ (ld_blt I hg2 hm2 PyProof.Rows.boot_set ?_)
  refine PyProof.Rows.callWith_type1 (PyProof.Rows.args_cons (thn (ha.run pins s σ H _ I h) fun v s1 ⟨x, H1, I1, r1, q1⟩ => PyProof.Rows.args_nil ?_) na) na rfl
  obtain ⟨l, xs, rfl, hq, h1, q1⟩ := q1
  cases r1
  obtain ⟨its, r, pl, hz⟩ := I1.list hq
  have hst : StrsAre its xs := r.strs
  have hl : its.toArray.size = xs.length := by rw [List.size_toArray, ← r.length, List.length_map]
  refine call_set_lst (knd := PySem.strKind X.prog X.w) (key := keyS) xs (I1.ok.hd hc) pl.isList hl (fun i v hv => ?_) (by unfold scanBound; omega) fun h' tk c hS hc2 hk => ?_
  · rw [List.getElem?_toArray] at hv
    have e := strs_key hst
    refine ⟨?_, strs_is hst v (List.mem_of_getElem? hv), ?_⟩
    · rw [← e, List.getElem?_map, hv]
      rfl
    · obtain ⟨t, e2⟩ := is_str_of (strs_is (P := X.prog) (w := X.w) hst v (List.mem_of_getElem? hv))
      rw [e2]
      rfl
  refine PyProof.Rows.args_nil ?_
  have I2 : L2.Inv X pins σ H1 { s1 with heap := h', toks := tk } := I1.kept hk
  refine sortedG (s := { s1 with heap := h', toks := tk }) hS (I1.ok.hd hc) (by omega) (fun l => sortedS l = true) (fun vs s2 A1 b c0 Q1 hI h64 hb hq => srt_strs vs s2 A1 b c0 Q1 hI h64 hb hq) fun s3 p3 out c3 k3 g3 o3 hp3 hout his hnd hso hmem hlen => ?_
  have hv : StrsAre out.toList (out.toList.map keyS) := is_strs his fun v hv => by
    obtain ⟨t, e⟩ := is_str_of (his v hv)
    exact ⟨_, t, e⟩
  exact ⟨.ref p3, _, inv_lay2 I2 k3 g3 o3 hp3 (show ObjOk X.prog X.w _ _ _ (.lst ((out.toList.map keyS).map V.str)) from ⟨by rw [List.length_map, List.length_map, hlen, sizeLine_eq]; omega, out.toList, c3, vals_of_strs hv, by rw [Array.toArray_toList]; exact hout⟩), rfl, q1 _ p3 hso hnd hmem (I2.hok.fresh hp3)⟩
theorem pe_sortedSetI {a : Expr} {ta : TE} {p p2 q pos : Pos} (ha : PE X a ta) (hg : Gl X "sorted") (hm : X.mg "sorted" = none) (hg2 : Gl X "set") (hm2 : X.mg "set" = none) (hc : X.calm = true := by rfl)
    (na : starEach [a] X.env = (false, eval a X.env) :: starEach [] X.env := by rfl) : PE X (.Call (.Name "sorted" p) [.Call (.Name "set" p2) [a] [] q] [] pos) (tSortSetI X.K ta) := by
  refine ⟨fun pins s σ H Q I h => ?_⟩
  refine Call_ (ld_blt I hg hm bo_sorted ?_)
  refine PyProof.Rows.callWith_builtin1 (PyProof.Rows.args_cons ?_ rfl) rfl rfl
  refine Call_ (ld_blt I hg2 hm2 PyProof.Rows.boot_set ?_)
  refine PyProof.Rows.callWith_type1 (PyProof.Rows.args_cons (thn (ha.run pins s σ H _ I h) fun v s1 ⟨x, H1, I1, r1, q1⟩ => PyProof.Rows.args_nil ?_) na) na rfl
  obtain ⟨l, xs, rfl, hq, h1, q1⟩ := q1
  cases r1
  obtain ⟨its, r, pl, hz⟩ := I1.list hq
  have hst : IntsAre its xs := r.ints
  have hl : its.toArray.size = xs.length := by rw [List.size_toArray, ← r.length, List.length_map]
  refine call_set_lst (knd := PySem.intKind X.prog X.w) (key := keyI) xs (I1.ok.hd hc) pl.isList hl (fun i v hv => ?_) (by unfold scanBound; omega) fun h' tk c hS hc2 hk => ?_
  · rw [List.getElem?_toArray] at hv
    have e := ints_key hst
    refine ⟨?_, ints_is hst v (List.mem_of_getElem? hv), ?_⟩
    · rw [← e, List.getElem?_map, hv]
      rfl
    · obtain ⟨t, e2⟩ := Value.isInt_shape (show Value.isInt (keyI v) v = true from ints_is (P := X.prog) (w := X.w) hst v (List.mem_of_getElem? hv))
      rw [e2]
      rfl
  refine PyProof.Rows.args_nil ?_
  have I2 : L2.Inv X pins σ H1 { s1 with heap := h', toks := tk } := I1.kept hk
  refine sortedG (s := { s1 with heap := h', toks := tk }) hS (I1.ok.hd hc) (by omega) (fun l => l.Pairwise (· ≤ ·)) (fun vs s2 A1 b c0 Q1 hI h64 hb hq => srt_ints vs s2 A1 b c0 Q1 hI h64 hb hq) fun s3 p3 out c3 k3 g3 o3 hp3 hout his hnd hso hmem hlen => ?_
  exact ⟨.ref p3, _, inv_lay2 I2 k3 g3 o3 hp3 (show ObjOk X.prog X.w _ _ _ (.lst ((out.toList.map keyI).map V.int)) from ⟨by rw [List.length_map, List.length_map, hlen, sizeLine_eq]; omega, out.toList, c3, vals_of_ints (is_ints his), by rw [Array.toArray_toList]; exact hout⟩), rfl, q1 _ p3 hso hnd hmem (I2.hok.fresh hp3)⟩
end
end K14
/-! R5 -/
set_option Elab.async false
set_option linter.all false
set_option maxRecDepth 100000
set_option maxHeartbeats 4000000
/-! R5: data with a Lean type: ==, !=, in. -/
namespace K14
open PySem PySem.Spec PyProof.Rows L2
def HD {α : Type} [DecidableEq α] [PySem.W.Datum α] (K : PySem.W.Frag) (H : Hp) (v : V) (a : α) : Prop := Dp K H v (PySem.W.Datum.toD a)
section
variable {K : PySem.W.Frag} {H H' : Hp}
theorem hd_int (i : Int) : HD K H (.int i) i := Dp.int i
theorem hd_str (x : Str) : HD K H (.str x) x := Dp.str x
theorem hd_bool (b : Bool) : HD K H (.bl b) b := Dp.bl b
theorem dpAll_ints : ∀ xs : List Int, DpAll K H (xs.map V.int) (xs.map PySem.W.Datum.toD)
  | [] => .nil
  | x :: xs => .cons (.int x) (dpAll_ints xs)
theorem dpAll_strs : ∀ xs : List Str, DpAll K H (xs.map V.str) (xs.map PySem.W.Datum.toD)
  | [] => .nil
  | x :: xs => .cons (.str x) (dpAll_strs xs)
theorem dpAll_bools : ∀ xs : List Bool, DpAll K H (xs.map V.bl) (xs.map PySem.W.Datum.toD)
  | [] => .nil
  | x :: xs => .cons (.bl x) (dpAll_bools xs)
theorem hd_ints {a : Addr} {xs : List Int} (h : SqL K H a (xs.map V.int)) : HD K H (.ref a) xs := Dp.lst h (dpAll_ints xs)
theorem hd_strs {a : Addr} {xs : List Str} (h : SqL K H a (xs.map V.str)) : HD K H (.ref a) xs := Dp.lst h (dpAll_strs xs)
theorem hd_bools {a : Addr} {xs : List Bool} (h : SqL K H a (xs.map V.bl)) : HD K H (.ref a) xs := Dp.lst h (dpAll_bools xs)
theorem hd_tup {a : Addr} {xs : List Int} (h : SqT K H a (xs.map V.int)) : HD K H (.ref a) (PySem.W.Tup.mk xs) := Dp.tup h (dpAll_ints xs)
theorem dpAll_map {α β : Type} [DecidableEq α] [PySem.W.Datum α] (f : β → V) (g : β → α) : ∀ xs : List β, (∀ x ∈ xs, HD K H (f x) (g x)) → DpAll K H (xs.map f) ((xs.map g).map PySem.W.Datum.toD)
  | [], _ => .nil
  | x :: xs, h => .cons (h x List.mem_cons_self) (dpAll_map f g xs fun y hy => h y (List.mem_cons_of_mem _ hy))
theorem hd_list {α β : Type} [DecidableEq α] [PySem.W.Datum α] {a : Addr} (f : β → V) (g : β → α) {xs : List β} (h : SqL K H a (xs.map f)) (hs : ∀ x ∈ xs, HD K H (f x) (g x)) : HD K H (.ref a) (xs.map g) := Dp.lst h (dpAll_map f g xs hs)
theorem HD.holds {α : Type} [DecidableEq α] [PySem.W.Datum α] {X : Cx} {pins : List (Addr × Obj)} {σ : L2.St} {H : Hp} {s : Shared} (I : L2.Inv X pins σ H s) {v : V} {u : Value} {a : α} (h : HD X.K H v a) (r : RelV v u) : PySem.W.Holds s.heap u a := Dp.reads I _ v u h r
end
def rEqT (α : Type) [DecidableEq α] [PySem.W.Datum α] (K : PySem.W.Frag) : R2 := fun x y H Q => ∃ a b : α, HD K H x a ∧ HD K H y b ∧ Q (.bl (decide (a = b))) H
def rNeT (α : Type) [DecidableEq α] [PySem.W.Datum α] (K : PySem.W.Frag) : R2 := fun x y H Q => ∃ a b : α, HD K H x a ∧ HD K H y b ∧ Q (.bl (decide (a ≠ b))) H
def rInT (α : Type) [DecidableEq α] [PySem.W.Datum α] (K : PySem.W.Frag) : R2 := fun x y H Q => ∃ (a : α) (bs : List α) (l : Addr) (ys : List V), HD K H x a ∧ y = .ref l ∧ SqL K H l ys ∧ DpAll K H ys (bs.map PySem.W.Datum.toD) ∧ Q (.bl (decide (a ∈ bs))) H
def rNotInT (α : Type) [DecidableEq α] [PySem.W.Datum α] (K : PySem.W.Frag) : R2 := fun x y H Q => ∃ (a : α) (bs : List α) (l : Addr) (ys : List V), HD K H x a ∧ y = .ref l ∧ SqL K H l ys ∧ DpAll K H ys (bs.map PySem.W.Datum.toD) ∧ Q (.bl (decide (a ∉ bs))) H
section
variable {X : Cx} {K : PySem.W.Frag}
theorem op_eqT (α : Type) [DecidableEq α] [PySem.W.Datum α] (hu : X.A.units + 64 < cLine) (hd : PySem.W.Datum.depth α ≤ 60 := by decide) (hK : X.K = K := by rfl) : OpR X (compareOp .Eq) (rEqT α K) := by
  subst hK
  intro pins s σ H x y v u Q I rx ry ⟨a, b, ha, hb, q⟩
  exact PySem.W.eq_datum (ha.holds I rx) (hb.holds I ry) (by omega) ⟨.bl _, H, I, rfl, q⟩
theorem op_neT (α : Type) [DecidableEq α] [PySem.W.Datum α] (hu : X.A.units + 64 < cLine) (hd : PySem.W.Datum.depth α ≤ 60 := by decide) (hK : X.K = K := by rfl) : OpR X (compareOp .NotEq) (rNeT α K) := by
  subst hK
  intro pins s σ H x y v u Q I rx ry ⟨a, b, ha, hb, q⟩
  exact PySem.W.ne_datum (ha.holds I rx) (hb.holds I ry) (by omega) ⟨.bl _, H, I, rfl, q⟩
theorem op_inT (α : Type) [DecidableEq α] [PySem.W.Datum α] (hu : X.A.units + 64 < cLine) (hd : PySem.W.Datum.depth α ≤ 60 := by decide) (hK : X.K = K := by rfl) : OpR X (compareOp .In) (rInT α K) := by
  subst hK
  intro pins s σ H x y v u Q I rx ry ⟨a, bs, l, ys, ha, ey, hl, hb, q⟩
  subst ey
  obtain rfl : u = Value.ref l := ry
  obtain ⟨its, rv, hl2, _⟩ := I.list hl
  exact PySem.W.in_list_datum hl2.isList (Dp.readsAll I _ _ _ hb (by simpa using rv)) (ha.holds I rx) (by omega) ⟨.bl _, H, I, rfl, q⟩
theorem op_notInT (α : Type) [DecidableEq α] [PySem.W.Datum α] (hu : X.A.units + 64 < cLine) (hd : PySem.W.Datum.depth α ≤ 60 := by decide) (hK : X.K = K := by rfl) : OpR X (compareOp .NotIn) (rNotInT α K) := by
  subst hK
  intro pins s σ H x y v u Q I rx ry ⟨a, bs, l, ys, ha, ey, hl, hb, q⟩
  subst ey
  obtain rfl : u = Value.ref l := ry
  obtain ⟨its, rv, hl2, _⟩ := I.list hl
  exact PySem.W.notIn_list_datum hl2.isList (Dp.readsAll I _ _ _ hb (by simpa using rv)) (ha.holds I rx) (by omega) ⟨.bl _, H, I, rfl, q⟩
end
end K14
/-! D7 -/
set_option Elab.async false
set_option linter.all false
set_option maxRecDepth 100000
set_option maxHeartbeats 4000000
/-! D7: reduced_rows. -/
namespace K14
open PySem PySem.Spec PyProof.Rows L2
abbrev WU (U : List Str) : List Str := ("" : Str) :: U
theorem putK_set {κ : Type} [DecidableEq κ] {kvs : List (κ × V)} {i : Nat} {k : κ} {w v : V} (nd : (kvs.map (·.1)).Nodup) (h : kvs[i]? = some (k, w)) : putK kvs k v = kvs.set i (k, v) := by
  have hm : (k, w) ∈ kvs := List.mem_of_getElem? h
  unfold putK
  rw [valV_any, valV_of_mem nd hm, if_pos (by rfl)]
  refine List.ext_getElem? fun j => ?_
  rw [List.getElem?_map, List.getElem?_set]
  have hi : i < kvs.length := (List.getElem?_eq_some_iff.mp h).1
  by_cases e : i = j
  · subst e
    rw [if_pos rfl, if_pos hi, h]
    show some (if k = k then (k, v) else (k, w)) = _
    rw [if_pos rfl]
  · rw [if_neg e]
    cases hj : kvs[j]? with
    | none => rfl
    | some p =>
      show some (if p.1 = k then (p.1, v) else p) = some p
      rw [if_neg]
      intro ek
      have h1 : (kvs.map (·.1))[i]? = some k := by rw [List.getElem?_map, h]; rfl
      have h2 : (kvs.map (·.1))[j]? = some k := by rw [List.getElem?_map, hj]; exact congrArg some ek
      exact e (nd_ix nd h1 h2)
theorem ldK_keys (L : Ld) : (ldK L).map (·.1) = (L.map (·.1)).map Sum.inr := by
  unfold ldK
  rw [List.map_map, List.map_map]
  rfl
theorem ldK_set (L : Ld) (i : Nat) (p : Str × Addr × (Str → Int)) : ldK (L.set i p) = (ldK L).set i ((Sum.inr p.1 : Key), V.ref p.2.1) := by
  unfold ldK
  rw [List.map_set]
theorem ldK_append (L M : Ld) : ldK (L ++ M) = ldK L ++ ldK M := List.map_append
theorem ldK_len (L : Ld) : (ldK L).length = L.length := List.length_map _
theorem ldK_at {L : Ld} {i : Nat} {p : Str × Addr × (Str → Int)} (h : L[i]? = some p) : (ldK L)[i]? = some ((Sum.inr p.1 : Key), V.ref p.2.1) := by
  unfold ldK
  rw [List.getElem?_map, h]
  rfl
theorem bs_keys (L : Ld) : (bs L).map (·.1) = L.map (·.1) := by
  unfold bs
  rw [List.map_map]
  rfl
theorem bs_at {L : Ld} {i : Nat} {p : Str × Addr × (Str → Int)} (h : L[i]? = some p) : (bs L)[i]? = some (p.1, p.2.2) := by
  unfold bs
  rw [List.getElem?_map, h]
  rfl
theorem bs_append (L M : Ld) : bs (L ++ M) = bs L ++ bs M := List.map_append
theorem bs_set (L : Ld) (i : Nat) (p : Str × Addr × (Str → Int)) : bs (L.set i p) = (bs L).set i (p.1, p.2.2) := by
  unfold bs
  rw [List.map_set]
theorem bs_len (L : Ld) : (bs L).length = L.length := List.length_map _
theorem bs_mem {L : Ld} {p : Str × (Str → Int)} (h : p ∈ bs L) : ∃ a, (p.1, a, p.2) ∈ L := by
  obtain ⟨r, hr, e⟩ := List.mem_map.mp h
  refine ⟨r.2.1, ?_⟩
  rw [← e]
  exact hr
theorem ldK_nd {L : Ld} (h : (L.map (·.1)).Nodup) : ((ldK L).map (·.1)).Nodup := by
  rw [ldK_keys]
  exact nodup_map_inr h
theorem turned_set {α : Type} (f : α → α) (l : List α) (k : Nat) {x : α} (h : l[k]? = some x) : ((l.take k).map f ++ l.drop k).set k (f x) = (l.take (k + 1)).map f ++ l.drop (k + 1) := by
  obtain ⟨hk, e⟩ := List.getElem?_eq_some_iff.mp h
  have hl : ((l.take k).map f).length = k := by rw [List.length_map, List.length_take]; omega
  rw [List.set_append_right _ _ (by omega), hl, Nat.sub_self, List.drop_eq_getElem_cons hk, List.set_cons_zero, take_snoc h, List.map_append, List.append_assoc]
  rfl
theorem turned_at {α : Type} (f : α → α) (l : List α) (k : Nat) {x : α} (h : l[k]? = some x) : ((l.take k).map f ++ l.drop k)[k]? = some x := by
  obtain ⟨hk, e⟩ := List.getElem?_eq_some_iff.mp h
  have hl : ((l.take k).map f).length = k := by rw [List.length_map, List.length_take]; omega
  rw [List.getElem?_append_right (by omega), hl, Nat.sub_self, List.drop_eq_getElem_cons hk, e]
  rfl
theorem turned_same {α : Type} (f : α → α) (l : List α) (k : Nat) {x : α} (h : l[k]? = some x) (e : f x = x) : (l.take k).map f ++ l.drop k = (l.take (k + 1)).map f ++ l.drop (k + 1) := by
  rw [← turned_set f l k h, e]
  refine (List.ext_getElem? fun j => ?_).symm
  rw [List.getElem?_set]
  by_cases c : k = j
  · subst c
    rw [if_pos rfl, turned_at f l k h]
    split
    · rfl
    · rename_i n
      have := (List.getElem?_eq_some_iff.mp (turned_at f l k h)).1
      exact absurd this n
  · rw [if_neg c]
/-- the names that stand in a row -/
theorem rw_keys {W : List Str} {q : Int} {kvs : List (Key × V)} {f : Str → Int} (R : Rw W q kvs f) {x : Str} : x ∈ tbK kvs ↔ f x ≠ 0 := by
  rw [tbK_mem R.toTb.names]
  constructor
  · exact R.nz x
  · intro h e
    exact h (R.out x e)
section
variable {P : Program} {w : World} {K : PySem.W.Frag} {mg : Str → Option Value} {base : Heap} {CS CP AM : Addr}
/-- what the rows span, by leading names -/
structure Spans (q : Int) (U : List Str) (fs : List (Str → Int)) (B : Bs) : Prop where
  rr : Rref q U B
  into : ∀ T : (Str → Int) → Prop, K14.Sub q T → T zer → (∀ f ∈ fs, T f) → ∀ p ∈ B, T p.2
  all : ∀ f ∈ fs, InS q B f
theorem Spans.nil (q : Int) (U : List Str) : Spans q U [] [] := ⟨Rref.nil q U, (fun _ _ _ _ _ h => nomatch h), (fun _ h => nomatch h)⟩
theorem Spans.step {q : Int} (hq : 1 < q) {U : List Str} {fs : List (Str → Int)} {B : Bs} (S : Spans q U fs B) {f : Str → Int} (hf : Rg q f) (hs : ∀ x, f x ≠ 0 → x ∈ U) {m : Str} {i : Int} (st : StepB q B f m i) : Spans q U (fs ++ [f]) (stepB q B f m i) := by
  have hq0 : 0 < q := by omega
  have R' := S.rr.step hq hf hs st
  obtain ⟨o1, o2⟩ := StepB.of_new hq S.rr hf st (T := InS q (stepB q B f m i)) (inS_sub hq0 _) (fun p hp => R'.inS_row hp) (inS_zer hq0 _)
  refine ⟨R', fun T hT h0 ha => ?_, fun g hg => ?_⟩
  · exact StepB.to_new hq0 hT h0 (S.into T hT h0 fun g hg => ha g (List.mem_append.mpr (.inl hg))) hf (ha f (List.mem_append.mpr (.inr (List.mem_singleton.mpr rfl))))
  · rcases List.mem_append.mp hg with h | h
    · exact (S.all g h).gen hq0 (inS_sub hq0 _) (inS_zer hq0 _) o1
    · rw [List.mem_singleton.mp h]
      exact o2
theorem Spans.same {q : Int} (hq : 0 < q) {U : List Str} {fs : List (Str → Int)} {B : Bs} (S : Spans q U fs B) {f : Str → Int} (h : InS q B f) : Spans q U (fs ++ [f]) B := by
  refine ⟨S.rr, fun T hT h0 ha => S.into T hT h0 fun g hg => ha g (List.mem_append.mpr (.inl hg)), fun g hg => ?_⟩
  rcases List.mem_append.mp hg with h' | h'
  · exact S.all g h'
  · rw [List.mem_singleton.mp h']
    exact h
theorem Spans.perm {q : Int} (hq : 0 < q) {U : List Str} {fs : List (Str → Int)} {B C : Bs} (S : Spans q U fs B) (nd : (C.map (·.1)).Nodup) (h : ∀ p, p ∈ C ↔ p ∈ B) : Spans q U fs C :=
  ⟨S.rr.perm nd h, fun T hT h0 ha p hp => S.into T hT h0 ha p ((h p).mp hp), fun f hf => (S.rr.inS_perm hq nd h f).mpr (S.all f hf)⟩
/-- L by other order of its names -/
theorem reorder {L : Ld} {ys : List Str} (hp : ys.Perm (L.map (·.1))) : ∃ L2 : Ld, L2.map (·.1) = ys ∧ ∀ p, p ∈ L2 → p ∈ L := by
  have : ∀ y ∈ ys, ∃ p ∈ L, p.1 = y := fun y hy => List.mem_map.mp (hp.mem_iff.mp hy)
  clear hp
  induction ys with
  | nil => exact ⟨[], rfl, fun p h => nomatch h⟩
  | cons y ys ih =>
    obtain ⟨p, hp, e⟩ := this y List.mem_cons_self
    obtain ⟨L2, h1, h2⟩ := ih fun z hz => this z (List.mem_cons_of_mem _ hz)
    refine ⟨p :: L2, by rw [List.map_cons, h1, e], fun r hr => ?_⟩
    rcases List.mem_cons.mp hr with z | hr
    · rw [z]
      exact hp
    · exact h2 r hr
theorem ld_uniq {L : Ld} (nd : (L.map (·.1)).Nodup) {p r : Str × Addr × (Str → Int)} (hp : p ∈ L) (hr : r ∈ L) (e : p.1 = r.1) : p = r := by
  obtain ⟨i, e1⟩ := List.mem_iff_getElem?.mp hp
  obtain ⟨j, e2⟩ := List.mem_iff_getElem?.mp hr
  have h1 : (L.map (·.1))[i]? = some p.1 := by rw [List.getElem?_map, e1]; rfl
  have h2 : (L.map (·.1))[j]? = some p.1 := by rw [List.getElem?_map, e2]; exact congrArg some e.symm
  have := nd_ix nd h1 h2
  subst this
  exact Option.some.inj (e1.symm.trans e2)
def spReducedRows : Sp := fun vs H Q _ => ∃ (l : Addr) (q : Int) (U : List Str) (rs : List (Addr × (Str → Int))), vs = [.ref l, .int q] ∧ Qok q ∧ Uok U ∧ H l = some (.lst (rs.map fun r => V.ref r.1)) ∧
  (∀ r ∈ rs, RowAt (WU U) q H r.1 r.2 ∧ ∀ x, r.2 x ≠ 0 → x ∈ U) ∧
  ∀ H' D L, Same H H' → H D = none → LeadsAt (WU U) q H' D L → (L.map (·.1)).Pairwise slt → Spans q U (rs.map (·.2)) (bs L) → Q (.ref D) H'
theorem ok_reduced_rows (T : Tx K mg CS CP AM) : GN P w K mg base 3 "reduced_rows" spReducedRows := by
  refine Fd.gn T.f_reduced_rows sc_reduced_rows (fun vs H Q E h => ?_) (fun _ _ _ _ _ _ us hl => match us, hl with | [_, _], _ => rfl) (fun f cdv A outer s H vs Q E hr h => ?_)
  · obtain ⟨l, q, U, rs, rfl, _⟩ := h
    rfl
  · obtain ⟨l, q, U, rs, rfl, hq, hU, hl, hrs, k⟩ := h
    have hu := hu_of hr
    have hu1 := hr.units
    have hu0 := hr.units0
    have hqp : 0 < q := by
      have := hq.pos
      omega
    have hq1 : 1 < q := by rcases hq with h | h | h <;> omega
    have hq100 : q < 100 := by rcases hq with h | h | h <;> omega
    have hW : (WU U).length ≤ 1000 := by
      have := hU.ln
      rw [List.length_cons]
      omega
    refine ⟨_, (pss_cons (ps_set (i := 2) sc_reduced_rows.nd rfl (Or.inr rfl) pe_dnewK)
      (pss_cons (ps_for PassesOwn.never rfl (pi_list (pv 0)) (pg_name (i := 3) sc_reduced_rows.nd rfl (Or.inl rfl) (Or.inr rfl)) (pss_cons (ps_set (i := 4) sc_reduced_rows.nd rfl (Or.inl rfl) (pe_g (ok_row_reduced T) hr (by rfl) (pa_cons (pv 3) (pa_cons (pv 2) (pa_cons (pv 1) pa_nil)))))
      (pss_cons (ps_lock (ps_setLc (i := 5) (own := [("name", 7)]) rfl sc_reduced_rows.nd rfl rfl (sw_true rfl rfl rfl (by decide +kernel)) (pi_keys (pv 4)) (blkOk_by (N := N_reduced_rows) (sc := defScope st_reduced_rows) (by decide +kernel)) (fun _ _ _ _ _ => (pg_name (i := 7) sc_reduced_rows.nd rfl (Or.inl rfl) (Or.inr rfl))) (fun _ _ _ _ _ => (pts_one (pt_cmpR op_ne (pv 7) (pe_gstr (by rfl) T.g_CONSTANT) (nomark _)))) (fun _ _ _ _ _ => (pv 7))))
      (pss_one (ps_if (pt_cmpR (op_neT (List Str) hu1) (pv 5) (pe_lst pa_nil) (nomark _)) (pss_cons (ps_set (i := 6) sc_reduced_rows.nd rfl (Or.inl rfl) (pe_callB (cr_minS hu) (by rfl) T.n_min bo_min (pa_cons (pv 5) pa_nil)))
      (pss_cons (ps_set (i := 4) sc_reduced_rows.nd rfl (Or.inl rfl) (pe_g (ok_row_less T) hr (by rfl) (pa_cons pe_dnewK (pa_cons (pv 4) (pa_cons (pe_un un_neg (pe_g (ok_inverse T) hr (by rfl) (pa_cons (pe_dget hu (pv 4) (pv 6) (fun _ _ => rfl)) (pa_cons (pv 1) pa_nil)))) (pa_cons (pv 1) pa_nil))))))
      (pss_cons (ps_for PassesOwn.never rfl (pi_list (LiI.pe_listItems rfl (pv 2) (by rfl) T.n_list bo_list)) (pg_tup rfl (pgs_cons (pg_name (i := 7) sc_reduced_rows.nd rfl (Or.inl rfl) (Or.inr rfl)) (pgs_cons (pg_name (i := 8) sc_reduced_rows.nd rfl (Or.inl rfl) (Or.inr rfl)) pgs_nil))) (pss_one (ps_if (pt_cmp (pc_din hu (pv 6) (pv 8))) (pss_one (ps_dput hu (pv 2) (pv 7) (pe_g (ok_row_less T) hr (by rfl) (pa_cons (pv 8) (pa_cons (pv 4) (pa_cons (pe_dget hu (pv 8) (pv 6) (fun _ _ => rfl)) (pa_cons (pv 1) pa_nil))))) rfl)) pss_nil)))
      (pss_one (ps_dput hu (pv 2) (pv 6) (pv 4) rfl))))) (pss_one (ps_if (pt_cmpR (op_ne_dictA hu0) (pv 4) pe_dnewK (nomark _)) (pss_one (ps_dput hu (pv 2) (pe_gstr (by rfl) T.g_CONSTANT) (pv 4) rfl)) pss_nil)))))))
      (pss_one (ps_ret (pe_dc (own := [("lead", 6)]) rfl sc_reduced_rows.nd (pi_list (pe_callB (call_sortedD rfl) (by rfl) T.n_sorted bo_sorted (pa_cons (pv 2) pa_nil))) (blkOk_by (N := N_reduced_rows) (sc := defScope st_reduced_rows) (by decide +kernel)) (fun _ _ _ _ _ => (pg_name (i := 6) sc_reduced_rows.nd rfl (Or.inl rfl) (Or.inr rfl))) (fun _ _ _ _ _ => pts_nil) (fun _ _ _ _ _ => (pv 6)) (fun _ _ _ _ _ => (pe_dget hu (pv 2) (pv 6) (fun _ _ => rfl)))))))), ?_⟩
    refine fun D hD => ?_
    have nlD : l ≠ D := ne_of_none hl hD
    refine ⟨_, rfl, l, rfl, ⟨_, .inl (.inl (by rw [upd_ne nlD]; exact hl))⟩, ?_⟩
    refine for_by rs.length (fun n σ H' => ∃ v3 v4 v5 v6 v7 v8 L, σ = [some (.ref l), some (.int q), some (.ref D), v3, v4, v5, v6, v7, v8] ∧ Same H H' ∧ LeadsAt (WU U) q H' D L ∧ Spans q U ((rs.take n).map (·.2)) (bs L)) ⟨none, none, none, none, none, none, [], rfl, same_new hD, ⟨upd_same, fun p h => nomatch h⟩, by rw [List.take_zero]; exact Spans.nil q U⟩ ?_ ?_
    · rintro n σ H1 hlt ⟨v3, v4, v5, v6, v7, v8, L, rfl, s1, hL, S⟩
      have hlH1 : H1 l = some (.lst (rs.map fun r => V.ref r.1)) := s1 _ _ hl
      obtain ⟨r, hr0⟩ : ∃ r, rs[n]? = some r := ⟨_, List.getElem?_eq_getElem hlt⟩
      have hrm : r ∈ rs := List.mem_of_getElem? hr0
      obtain ⟨Rr, hsr⟩ := hrs r hrm
      have hat : (rs.map fun r => V.ref r.1)[n]? = some (V.ref r.1) := by
        rw [List.getElem?_map, hr0]
        rfl
      refine ⟨⟨_, _, .inl (.inl hlH1), hat⟩, ?_⟩
      rintro x H2 ⟨e2, hx⟩
      have e2 := e2.symm
      subst e2
      have ex := hx _ (.inl (.inl hlH1))
      rw [hat] at ex
      obtain rfl := Option.some.inj ex
      have nrD : r.1 ≠ D := by
        obtain ⟨kvs, e, _⟩ := Rr
        exact ne_of_none e hD
      have hf : Rg q r.2 := Rr.rg
      have ndL : (L.map (·.1)).Nodup := by
        rw [← bs_keys]
        exact S.rr.nd
      have hLlen : L.length ≤ 8 := by
        have h1 := len_sub (l := L.map (·.1)) (m := U) ndL fun x hx => by
          obtain ⟨p, hp, e⟩ := List.mem_map.mp hx
          rw [← e]
          exact S.rr.lead_in (p := (p.1, p.2.2)) (List.mem_map.mpr ⟨p, hp, rfl⟩)
        rw [List.length_map] at h1
        have := hU.ln
        omega
      -- left = row_reduced(row, leads, modulus)
      refine ⟨_, rfl, _, rfl, _, rfl, r.1, D, q, WU U, r.2, L, rfl, Rr.same s1, hL, nrD, ndL, hW, hqp, hq100, fun H3 d s3 hd Rd => ?_⟩
      have hDH1 : ∃ o, H1 D = some o := ⟨_, hL.at_⟩
      have ndD : d ≠ D := by
        rcases hd with rfl | hd
        · exact nrD
        · exact fun e => by
            obtain ⟨o, ho⟩ := hDH1
            rw [e, ho] at hd
            cases hd
      obtain ⟨kd, hkd, Rkd⟩ := id Rd
      have s13 : Same H H3 := s1.trans s3
      have hL3 := hL.same s3
      have hg : Rg q (red q r.2 (bs L)) := red_rg hqp hf _
      have g0 : red q r.2 (bs L) "" = 0 := by
        refine Decidable.byContradiction fun z => ?_
        have hin := S.rr.red_sup hqp hf hsr z
        exact (hU.nm _ hin).ne rfl
      have hlenK : kd.length ≤ 9 := by
        have := Rkd.toTb.len
        have := hU.ln
        rw [List.length_cons] at *
        omega
      -- names = [name for name in left if name != CONSTANT]
      refine ⟨d, .dK kd, hkd, trivial, fun od => ?_⟩
      refine ⟨_, rfl, d, od, rfl, .inl ⟨kd, upd_same, fun E hE => ?_⟩⟩
      obtain ⟨hE3, nEd⟩ := free_lock hE
      refine lc_by kd.length (fun n H' => Same (upd H3 d (.frz od (.dK kd))) H' ∧ H' E = some (.lst (((tbK kd).take n).map V.str))) ⟨same_new hE, by rw [upd_same]; rfl⟩ ?_ ?_
      · rintro n H4 hlt4 ⟨s4, e4⟩
        refine ⟨⟨s4 _ _ upd_same, hlt4⟩, ?_⟩
        rintro x H5 ⟨e5, key, v, hkv, rfl⟩
        have e5 := e5.symm
        subst e5
        obtain ⟨y, ey, hyW⟩ := Rkd.ks _ (List.mem_of_getElem? hkv)
        obtain ⟨rfl, rfl⟩ : key = (Sum.inr y : Key) ∧ v = V.int (red q r.2 (bs L) y) := ⟨congrArg Prod.fst ey, congrArg Prod.snd ey⟩
        have hty : (tbK kd)[n]? = some y := by
          have := congrArg (fun l : List Key => l[n]?) Rkd.toTb.names
          rw [List.getElem?_map, hkv, List.getElem?_map] at this
          cases h2 : (tbK kd)[n]? with
          | none =>
            rw [h2] at this
            cases this
          | some z =>
            rw [h2] at this
            have := Option.some.inj this
            exact congrArg some (Sum.inr.inj this).symm
        have hy0 : y ≠ "" := fun e => (rw_keys Rkd).mp (List.mem_of_getElem? hty) (by rw [e]; exact g0)
        refine ⟨rfl, _, rfl, rfl, _, rfl, ?_⟩
        have : (!decide (kV (Sum.inr y : Key) = V.str "")) = true := by
          show (!decide (V.str y = V.str "")) = true
          rw [decide_eq_false fun z => hy0 (V.str.inj z)]
          rfl
        rw [this]
        refine iteT ?_
        refine ⟨_, rfl, _, e4, ?_, same_mut s4 hE, ?_⟩
        · rw [List.length_map, List.length_take]
          exact small1000 (by omega)
        · rw [upd_same, take_snoc hty, List.map_append]
          rfl
      · rintro H4 ⟨s4, e4⟩
        refine ⟨⟨s4 _ _ upd_same, Nat.le_refl _⟩, s4 _ _ upd_same, ?_⟩
        rw [← tbK_len Rkd.toTb.names, List.take_length] at e4
        have s34 : Same H3 (upd H4 d (.dK kd)) := same_unlock hkd s4
        generalize hH5 : upd H4 d (.dK kd) = H5 at s34
        have eE : H5 E = some (.lst ((tbK kd).map V.str)) := by
          rw [← hH5, upd_ne nEd]
          exact e4
        have s15 : Same H H5 := s13.trans s34
        have hL5 := hL3.same s34
        have hd5 : H5 d = some (.dK kd) := s34 _ _ hkd
        have hemp : ∀ {p : Addr} {Hx : Hp}, Hx E = some (.lst ((tbK kd).map V.str)) → Hx p = some (.lst []) → True := fun _ _ => trivial
        -- if names != []
        refine ⟨_, rfl, Nat.zero_le _, fun p5 hp5 => ?_⟩
        have s56 : Same H5 (upd H5 p5 (.lst [])) := same_new hp5
        refine ⟨tbK kd, [], hd_strs (.inl (.inl (s56 _ _ eE))), hd_strs (xs := []) (.inl (.inl upd_same)), _, rfl, ?_⟩
        generalize hH6 : upd H5 p5 (.lst []) = H6 at s56
        have s16 : Same H H6 := s15.trans s56
        have hL6 := hL5.same s56
        have hd6 := s56 _ _ hd5
        refine ite2 (fun hne => ?_) (fun hne => ?_)
        · have hnames : tbK kd ≠ [] := of_decide_eq_true hne
          -- lead = min(names)
          refine ⟨_, rfl, E, tbK kd, rfl, .inl (.inl (s56 _ _ eE)), hnames, fun m hm hmin => ?_⟩
          have hgm : red q r.2 (bs L) m ≠ 0 := (rw_keys Rkd).mp hm
          have hgmr := hg m
          have hmU : m ∈ U := S.rr.red_sup hqp hf hsr hgm
          -- left = row_less({}, left, -inverse(left[lead], modulus), modulus)
          refine fun e he => ?_
          have he6 : H6 e = none := he
          have s67 : Same H6 (upd H6 e (.dK [])) := same_new he
          generalize hH7 : upd H6 e (.dK []) = H7 at s67
          have he7 : H7 e = some (.dK []) := by
            rw [← hH7]
            exact upd_same
          refine ⟨_, rfl, _, rfl, _, rfl, d, _, rfl, .inl ⟨kd, Sum.inr m, .inl (s67 _ _ hd6), rfl, by rw [Rkd.at_ m, if_neg hgm]⟩, _, rfl, _, q, rfl, hq, by omega, hgmr.2, fun i H8 hi0 hiq hinv s78 => ?_⟩
          refine ⟨i, rfl, _, rfl, e, d, -i, q, WU U, zer, red q r.2 (bs L), rfl, ⟨[], s78 _ _ he7, ⟨Tb.nil, (fun x h => absurd rfl h), zer_rg hqp⟩⟩, ⟨kd, s78 _ _ (s67 _ _ hd6), Rkd⟩, hW, hqp, hq100, fun H9 d2 s89 hd2 Rn => ?_⟩
          have st : StepB q (bs L) r.2 m i := ⟨hgm, fun z hz => hmin z ((rw_keys Rkd).mpr hz), hinv⟩
          have s69 : Same H6 H9 := (s67.trans s78).trans s89
          have s19 : Same H H9 := s16.trans s69
          have hL9 := hL6.same s69
          have nd2D : d2 ≠ D := fun z => by
            rw [z] at hd2
            rw [((hL6.same s67).same s78).at_] at hd2
            cases hd2
          have Rn : RowAt (WU U) q H9 d2 (newR q (bs L) r.2 i) := Rn
          -- for name, one in list(leads.items())
          refine ⟨_, rfl, D, ldK L, rfl, hL9.at_, fun Ha pl ts sa hpl hts hpt hat2 htt => ?_⟩
          have s9a : Same H9 Ha := sa
          have hLa := hL9.same s9a
          have Rna := Rn.same s9a
          have n2a : d2 ≠ D := nd2D
          have tl : ts.length = L.length := by
            have := Paired.length htt
            rw [ldK_len] at this
            exact this
          have npD : pl ≠ D := fun z => by
            rw [z, hLa.at_] at hat2
            cases hat2
          refine ⟨pl, rfl, ⟨_, .inl (.inl hat2)⟩, ?_⟩
          generalize hN : newR q (bs L) r.2 i = nw at Rn Rna
          have hs := (S.step hq1 hf hsr st)
          have hstep : stepB q (bs L) r.2 m i = (bs L).map (elim q nw m) ++ [(m, nw)] := by
            unfold stepB
            rw [hN]
          refine for_by L.length (fun k σ H' => ∃ v7 v8 L', σ = [some (.ref l), some (.int q), some (.ref D), some (.ref r.1), some (.ref d2), some (.ref E), some (.str m), v7, v8] ∧ SameB D Ha H' ∧ Same H H' ∧ LeadsAt (WU U) q H' D L' ∧ L'.length = L.length ∧ bs L' = ((bs L).take k).map (elim q nw m) ++ (bs L).drop k) ⟨_, _, L, rfl, SameB.refl _, s19.trans s9a, hLa, rfl, by rw [List.take_zero, List.drop_zero]; rfl⟩ ?_ ?_
          · rintro k σ Hb hltk ⟨v7, v8, L', rfl, sb, sHb, hL', hLL, hbs⟩
            have hlb := sb _ _ npD hat2
            obtain ⟨t, ht⟩ : ∃ t, ts[k]? = some t := ⟨_, List.getElem?_eq_getElem (by omega)⟩
            obtain ⟨p, hp⟩ : ∃ p, L[k]? = some p := ⟨_, List.getElem?_eq_getElem hltk⟩
            have hpm : p ∈ L := List.mem_of_getElem? hp
            obtain ⟨pp, epp, hct⟩ := LiI.paired_get htt ht
            rw [ldK_at hp] at epp
            obtain rfl := Option.some.inj epp
            have hct : Ha t = some (.tup [.str p.1, .ref p.2.1]) := hct
            have ntD : t ≠ D := fun z => by
              rw [z, hLa.at_] at hct
              cases hct
            have hatk : (ts.map V.ref)[k]? = some (V.ref t) := by
              rw [List.getElem?_map, ht]
              rfl
            refine ⟨⟨_, _, .inl (.inl hlb), hatk⟩, ?_⟩
            rintro x Hb2 ⟨e2, hx⟩
            have e2 := e2.symm
            subst e2
            have ex := hx _ (.inl (.inl hlb))
            rw [hatk] at ex
            obtain rfl := Option.some.inj ex
            have Rp := (hLa.row p hpm)
            have npD2 : p.2.1 ≠ D := hLa.ne Rp (List.ne_nil_of_mem hpm)
            have Rpb := Rp.keep sb npD2
            obtain ⟨kp, hkp, Rkp⟩ := id Rpb
            refine ⟨t, [.str p.1, .ref p.2.1], rfl, .inl (.inl (sb _ _ ntD hct)), rfl, _, _, rfl, _, _, rfl, rfl, ?_⟩
            refine ⟨_, rfl, _, rfl, p.2.1, _, rfl, .inl ⟨kp, Sum.inr m, .inl hkp, rfl, rfl⟩, _, rfl, ?_⟩
            rw [Rkp.at_ m]
            by_cases z : p.2.2 m = 0
            · rw [if_pos z]
              refine iteF ⟨_, _, L', rfl, sb, sHb, hL', hLL, ?_⟩
              rw [hbs]
              refine turned_same _ _ _ (bs_at hp) ?_
              unfold elim
              rw [if_neg (by simpa using z)]
            · rw [if_neg z]
              refine iteT ?_
              refine ⟨_, rfl, _, rfl, _, rfl, _, rfl, p.2.1, _, rfl, .inl ⟨kp, Sum.inr m, .inl hkp, rfl, by rw [Rkp.at_ m, if_neg z]⟩, _, rfl, p.2.1, d2, p.2.2 m, q, WU U, p.2.2, nw, rfl, Rpb, Rna.keep sb n2a, hW, hqp, hq100, fun Hc d3 sc hd3 R3 => ?_⟩
              have hLc := hL'.same sc
              have nd3D : d3 ≠ D := fun z => by
                rw [z, hL'.at_] at hd3
                cases hd3
              have hp' : ∃ b, L'[k]? = some (p.1, b, p.2.2) := by
                have := bs_at hp
                have h2 := turned_at (elim q nw m) (bs L) k this
                rw [← hbs] at h2
                cases h3 : L'[k]? with
                | none =>
                  have := List.getElem?_eq_none_iff.mp h3
                  omega
                | some u =>
                  rw [bs_at h3] at h2
                  have h4 := Option.some.inj h2
                  exact ⟨u.2.1, by
                    have e1 : u.1 = p.1 := congrArg (fun z : Str × (Str → Int) => z.1) h4
                    have e2 : u.2.2 = p.2.2 := congrArg (fun z : Str × (Str → Int) => z.2) h4
                    rw [← e1, ← e2]⟩
              obtain ⟨b, hb⟩ := hp'
              have ndL' : (L'.map (·.1)).Nodup := by
                rw [← bs_keys, hbs]
                have e : (List.map (fun x => x.fst) (List.map (elim q nw m) (List.take k (bs L)) ++ List.drop k (bs L))) = (bs L).map (·.1) := by
                  rw [List.map_append, List.map_map]
                  conv => rhs; rw [← List.take_append_drop k (bs L), List.map_append]
                  rfl
                rw [e]
                exact S.rr.nd
              refine ⟨_, rfl, _, rfl, D, _, rfl, DPut.k (k := (Sum.inr p.1 : Key)) hLc.at_ (small1000 (by
                rw [ldK_len, hLL]
                omega)), ?_⟩
              refine ⟨_, _, L'.set k (p.1, d3, rowSub q p.2.2 nw (p.2.2 m)), rfl, fun x o nx hx => ?_, same_mut (sHb.trans sc) hD, ⟨?_, fun u hu => ?_⟩, by rw [List.length_set]; exact hLL, ?_⟩
              · rw [upd_ne nx]
                exact sc _ _ (sb _ _ nx hx)
              · rw [upd_same, ldK_set, putK_set (ldK_nd ndL') (ldK_at hb)]
              · rcases List.mem_or_eq_of_mem_set hu with hu | hu
                · exact (hLc.row u hu).upd (hLc.ne (hLc.row u hu) (List.ne_nil_of_mem hu))
                · rw [hu]
                  exact R3.upd nd3D
              · rw [bs_set, hbs]
                have := turned_set (elim q nw m) (bs L) k (bs_at hp)
                rw [← this]
                congr 1
                unfold elim
                rw [if_pos z]
          · rintro σ Hb ⟨v7, v8, L', rfl, sb, sHb, hL', hLL, hbs⟩
            refine ⟨⟨_, .inl (.inl (sb _ _ npD hat2)), by rw [List.length_map, tl]; exact Nat.le_refl _⟩, ?_⟩
            rw [← bs_len, List.take_length, List.drop_length, List.append_nil] at hbs
            have hkeys : L'.map (·.1) = L.map (·.1) := by
              rw [← bs_keys, hbs, List.map_map]
              unfold bs
              rw [List.map_map]
              rfl
            have hno : valV (ldK L') (Sum.inr m : Key) = none := by
              cases e : valV (ldK L') (Sum.inr m : Key) with
              | none => rfl
              | some u =>
                have := valV_in e
                rw [ldK_keys, hkeys] at this
                obtain ⟨y, hy, ey⟩ := List.mem_map.mp this
                have hy2 : m ∈ L.map (·.1) := Sum.inr.inj ey ▸ hy
                obtain ⟨p, hp, ep⟩ := List.mem_map.mp hy2
                exact absurd ep (st.new_lead hq1 S.rr hf (p := (p.1, p.2.2)) (List.mem_map.mpr ⟨p, hp, rfl⟩))
            have Rnb := Rna.keep sb n2a
            refine ⟨_, rfl, _, rfl, _, rfl, D, _, rfl, DPut.k (k := (Sum.inr m : Key)) hL'.at_ (small1000 (by
              rw [ldK_len, hLL]
              omega)), ?_⟩
            refine ⟨_, _, _, _, _, _, L' ++ [(m, d2, nw)], rfl, same_mut sHb hD, ⟨?_, fun u hu => ?_⟩, ?_⟩
            · rw [upd_same, putK_new _ hno, ldK_append]
              rfl
            · rcases List.mem_append.mp hu with hu | hu
              · exact (hL'.row u hu).upd (hL'.ne (hL'.row u hu) (List.ne_nil_of_mem hu))
              · rw [List.mem_singleton.mp hu]
                exact Rnb.upd n2a
            · rw [take_snoc hr0, List.map_append, bs_append, hbs]
              rw [hstep] at hs
              exact hs
        · have hnames : tbK kd = [] := Decidable.byContradiction fun z => hne (decide_eq_true z)
          have hkd0 : kd = [] := by
            have := tbK_len Rkd.toTb.names
            rw [hnames] at this
            exact List.length_eq_zero_iff.mp this.symm
          have hz : ∀ x, red q r.2 (bs L) x = 0 := fun x => Decidable.byContradiction fun z => by
            have := (rw_keys Rkd).mpr z
            rw [hnames] at this
            cases this
          refine ⟨_, rfl, fun e he => ?_⟩
          have s67 : Same H6 (upd H6 e (.dK [])) := same_new he
          refine ⟨d, e, kd, [], rfl, rfl, s67 _ _ hd6, upd_same, by rw [hkd0], (by rw [hkd0]; exact fun p hp => (nomatch hp)), _, rfl, ?_⟩
          refine iteF ?_
          refine ⟨_, _, _, _, _, _, L, rfl, s16.trans s67, hL6.same s67, ?_⟩
          rw [take_snoc hr0, List.map_append]
          exact S.same hqp ((inS_red hqp hf).mpr hz)
    · rintro σ H1 ⟨v3, v4, v5, v6, v7, v8, L, rfl, s1, hL, S⟩
      have hlH1 : H1 l = some (.lst (rs.map fun r => V.ref r.1)) := s1 _ _ hl
      refine ⟨⟨_, .inl (.inl hlH1), by rw [List.length_map]; exact Nat.le_refl _⟩, ?_⟩
      rw [List.take_length] at S
      have ndL : (L.map (·.1)).Nodup := by
        rw [← bs_keys]
        exact S.rr.nd
      have hLlen : L.length ≤ 8 := by
        have h1 := len_sub (l := L.map (·.1)) (m := U) ndL fun x hx => by
          obtain ⟨p, hp, e⟩ := List.mem_map.mp hx
          rw [← e]
          exact S.rr.lead_in (p := (p.1, p.2.2)) (List.mem_map.mpr ⟨p, hp, rfl⟩)
        rw [List.length_map] at h1
        have := hU.ln
        omega
      -- {lead: leads[lead] for lead in sorted(leads)}
      refine ⟨_, rfl, D, ldK L, L.map (·.1), rfl, .inl hL.at_, ldK_keys L, by rw [List.length_map]; omega, fun ys p hys hso hp => ?_⟩
      obtain ⟨L2, e2, m2⟩ := reorder hys
      have l2 : L2.length = L.length := by
        have := congrArg List.length e2
        rw [List.length_map, hys.length_eq, List.length_map] at this
        exact this
      have s12 : Same H1 (upd H1 p (.lst (ys.map V.str))) := same_new hp
      refine ⟨p, rfl, ⟨_, .inl (.inl upd_same)⟩, fun F hF => ?_⟩
      generalize hH2 : upd H1 p (.lst (ys.map V.str)) = H2 at s12 hF
      have hp2 : H2 p = some (.lst (ys.map V.str)) := by
        rw [← hH2]
        exact upd_same
      have hL2 := hL.same s12
      refine dc_by L2.length (fun n H' => Same H2 H' ∧ H' F = some (.dK (ldK (L2.take n)))) ⟨same_new hF, by rw [upd_same]; rfl⟩ ?_ ?_
      · rintro n H3 hlt ⟨s3, e3⟩
        obtain ⟨u, hu⟩ : ∃ u, L2[n]? = some u := ⟨_, List.getElem?_eq_getElem hlt⟩
        have hat : (ys.map V.str)[n]? = some (V.str u.1) := by
          rw [← e2, List.getElem?_map, List.getElem?_map, hu]
          rfl
        refine ⟨⟨_, _, .inl (.inl (s3 _ _ hp2)), hat⟩, ?_⟩
        rintro x H4 ⟨e4, hx⟩
        have e4 := e4.symm
        subst e4
        have ex := hx _ (.inl (.inl (s3 _ _ hp2)))
        rw [hat] at ex
        obtain rfl := Option.some.inj ex
        have huL := m2 u (List.mem_of_getElem? hu)
        obtain ⟨j, hj⟩ := List.mem_iff_getElem?.mp huL
        have hv : valV (ldK L) (Sum.inr u.1 : Key) = some (.ref u.2.1) := valV_of_mem (ldK_nd ndL) (List.mem_of_getElem? (ldK_at hj))
        have hno : valV (ldK (L2.take n)) (Sum.inr u.1 : Key) = none := by
          cases e : valV (ldK (L2.take n)) (Sum.inr u.1 : Key) with
          | none => rfl
          | some w =>
            have := valV_in e
            rw [ldK_keys] at this
            obtain ⟨y, hy, ey⟩ := List.mem_map.mp this
            have hy2 : u.1 ∈ (L2.take n).map (·.1) := Sum.inr.inj ey ▸ hy
            rw [List.map_take, e2] at hy2
            have nd : ys.Nodup := hys.nodup_iff.mpr ndL
            obtain ⟨i, hi⟩ := List.mem_iff_getElem?.mp hy2
            rw [List.getElem?_take] at hi
            split at hi
            · rename_i hin
              have h2 : ys[n]? = some u.1 := by
                rw [← e2, List.getElem?_map, hu]
                rfl
              exact absurd (nd_ix nd hi h2) (by omega)
            · cases hi
        refine ⟨rfl, _, rfl, _, rfl, _, rfl, D, _, rfl, .inl ⟨ldK L, Sum.inr u.1, .inl (hL2.same s3).at_, rfl, by rw [hv]⟩, ldK (L2.take n), (Sum.inr u.1 : Key), rfl, e3, ?_, same_mut s3 hF, ?_⟩
        · rw [ldK_len, List.length_take]
          exact small1000 (by omega)
        · rw [upd_same, putK_new _ hno, take_snoc hu, ldK_append]
          rfl
      · rintro H3 ⟨s3, e3⟩
        refine ⟨⟨_, .inl (.inl (s3 _ _ hp2)), by rw [← e2, List.length_map, List.length_map]; exact Nat.le_refl _⟩, ?_⟩
        rw [List.take_length] at e3
        have sH3 : Same H H3 := (s1.trans s12).trans s3
        have hF0 : H F = none := (s1.trans s12).free hF
        refine k H3 F L2 sH3 hF0 ⟨e3, fun u hu => ((hL.same s12).same s3).row u (m2 u hu)⟩ ?_ (S.perm hqp ?_ ?_)
        · rw [e2]
          exact pair_slt (sorted_pair ys hso) (hys.nodup_iff.mpr ndL)
        · rw [bs_keys, e2]
          exact hys.nodup_iff.mpr ndL
        · intro u
          constructor
          · intro h
            obtain ⟨a, ha⟩ := bs_mem h
            exact List.mem_map.mpr ⟨_, m2 _ ha, rfl⟩
          · intro h
            obtain ⟨a, ha⟩ := bs_mem h
            have : u.1 ∈ L2.map (·.1) := by
              rw [e2, hys.mem_iff]
              exact List.mem_map.mpr ⟨_, ha, rfl⟩
            obtain ⟨w, hw, ew⟩ := List.mem_map.mp this
            have := ld_uniq ndL (m2 w hw) ha ew
            rw [this] at hw
            exact List.mem_map.mpr ⟨_, hw, rfl⟩
end
end K14
/-! R6 -/
set_option Elab.async false
set_option linter.all false
set_option maxRecDepth 100000
set_option maxHeartbeats 4000000
/-! R6: enumerate(tuple), zip(list, tuple). -/
namespace K14
open PySem PySem.Spec PyProof.Rows L2
open Sem (wp)
open AutoSeq1 (wpAny_loadPart')
theorem meets_enumerate_newT (l : Addr) (items : Array Value) (n : Nat) (dct : Option Addr) (sl : Array (Option Value)) :
    Meets (Builtin.«enumerate.__new__» ⟨[.type "enumerate", .ref l], []⟩) (fun _ R s => s.heap.get? l = some { cls := .type "tuple", dict := dct, data := .seq items n, slots := sl } ∧
      R (.ok (.ret (.ref (s.heap.push { cls := .type "tuple_iterator", data := .fields #[.ref l, .int 0 0] }).objs.size)))
        { s with heap := (s.heap.push { cls := .type "tuple_iterator", data := .fields #[.ref l, .int 0 0] }).push { cls := .type "enumerate", data := .fields #[.none, .bool false, .ref s.heap.objs.size, rawInt 0, .none, .none] } }) :=
  .of_wp fun prog w A R s h => by
    obtain ⟨hp, g, d, tk, os⟩ := s; obtain ⟨hl, h⟩ := h
    have hsub := sub_enumerate
    have hL : Heap.IsTuple (Shared.heap ⟨hp, g, d, tk, os⟩) l items := ⟨_, hl, rfl, n, rfl⟩
    wp_walk using wpAny_loadPart' hl
    refine wpAny_stack_any fun st => wpAny_pure ?_
    split
    · rename_i c _ _ _ _ _
      cases (c == Value.type "enumerate")
      · wp_walk using wpAny_loadPart' hl, wpAny_pyIter_tuple hL
        exact ⟨_, rfl, h⟩
      · wp_walk using wpAny_loadPart' hl, wpAny_pyIter_tuple hL
        exact ⟨_, rfl, h⟩
    · wp_walk using wpAny_loadPart' hl, wpAny_pyIter_tuple hL
      exact ⟨_, rfl, h⟩
section
variable {prog : Program} {w : World} {A : Around} {E : Value → Shared → Prop} {s : Shared}
theorem call_enumerate_tuple {l : Addr} {items : Array Value} {Q : Value → Shared → Prop} (hL : s.heap.IsTuple l items)
    (h : ∀ h', IsEnum h' (s.heap.objs.size + 1) s.heap.objs.size 0 .none → h'.IsTupleIter s.heap.objs.size l 0 → h'.objs.size = s.heap.objs.size + 2 →
      (∀ b o, s.heap.get? b = some o → h'.get? b = some o) → Q (.ref (s.heap.objs.size + 1)) { s with heap := h' }) :
    wpAny (model prog w) A (call (.type "enumerate") [.ref l]) Q E s := by
  obtain ⟨⟨c, dct, dt, sl⟩, hl, hc, n, hd⟩ := hL
  replace hc : c = .type "tuple" := hc
  replace hd : dt = .seq items n := hd
  subst hc hd
  refine callType_new F.called_enumerate (by decide) (F.typeCall_enumerate_1 _) (F.newCall_enumerate_1 _) (fun obj => F.args_object_init_2 obj _) F.entry_enumerate_new
    (meets_enumerate_newT l items n dct sl) ⟨hl, ?_⟩
  have hz : (s.heap.push { cls := .type "tuple_iterator", data := .fields #[.ref l, .int 0 0] }).objs.size = s.heap.objs.size + 1 := Heap.size_push ..
  show _ ∧ _
  rw [hz]
  have he : IsEnum ((s.heap.push { cls := .type "tuple_iterator", data := .fields #[.ref l, .int 0 0] }).push
      { cls := .type "enumerate", data := .fields #[.none, .bool false, .ref s.heap.objs.size, rawInt 0, .none, .none] }) (s.heap.objs.size + 1) s.heap.objs.size 0 .none := by
    have := Heap.get?_push_size (s.heap.push { cls := .type "tuple_iterator", data := .fields #[.ref l, .int 0 0] })
      (o := { cls := .type "enumerate", data := .fields #[.none, .bool false, .ref s.heap.objs.size, rawInt 0, .none, .none] }) rfl
    rw [hz] at this; exact this
  refine ⟨⟨_, he, rfl⟩, h _ he ⟨_, Heap.get?_push_of_some _ (Heap.get?_push_size _ rfl), rfl, rfl⟩ (by rw [Heap.size_push, hz]) fun b o x => Heap.get?_push_of_some _ (Heap.get?_push_of_some _ x)⟩
theorem enum_endT {e it l : Addr} {i : Nat} {items : Array Value} {old : Value} {Q : Option Value → Shared → Prop} (hh : A.handled = none)
    (he : IsEnum s.heap e it i old) (hit : s.heap.IsTupleIter it l i) (hl : s.heap.IsTuple l items) (hx : items[i]? = none)
    (hQ : ∀ h', Heap.ExtBut it s.heap h' → Q none { s with heap := h' }) : wpAny (model prog w) A (pyNext (.ref e)) Q E s := by
  have hT : s.TypeIs (.ref e) "enumerate" := ⟨_, he, rfl⟩
  unfold pyNext
  refine wpAny_bind (wpAny_attempt (wpAny_callSpecial?_slot (name := Str.ofString "__next__") hT F.slot_enumerate_next
    (wpAny_call_entry F.slot_enumerate_next hT F.entry_enumerate_next ?_ (F.args_enumerate_next_1 _))))
  show wpAny _ _ (field (.ref e) 2 >>= _) _ _ _
  refine wpAny_bind (wpAny_field he rfl (x := .ref it) rfl ?_)
  refine wpAny_bind (wpAny_nextOf_tuple_end hh hit hl hx fun h' x he' hx' => ?_)
  obtain ⟨o, ho, hc⟩ := hx'
  refine wpAny_bind (wpAny_isInstance (T := "StopIteration") (b := true) ⟨o, ho, hc⟩ isSubtype_stop ?_)
  exact wpAny_pure (hQ _ he')
end
def IteT (K : PySem.W.Frag) (a : Addr) : It :=
  ⟨fun i H => ∃ (xs : List V) (x : V), SqT K H a xs ∧ xs[i]? = some x, fun i H v H' => ∃ T x, v = .ref T ∧ H T = none ∧ H' = upd H T (.tup [.int (i : Nat), x]) ∧ ∀ xs, SqT K H a xs → xs[i]? = some x, fun i H => ∃ xs : List V, SqT K H a xs ∧ xs.length ≤ i⟩
theorem turn_enumT {P : Program} {w : World} {K : PySem.W.Frag} {elts : List Expr} {kk : Nat} {tpos : Pos} (a e it : Addr) :
    Turn P w K (.Tuple elts kk tpos) (IteT K a) [e, it] e (fun i h => (∃ old, IsEnum h e it ((i : Nat) : Int) old) ∧ h.IsTupleIter it a i ∧ e ≠ it ∧ e ≠ a ∧ a ≠ it) where
  mem := by simp
  obj := fun i h st b hb => by
    obtain ⟨⟨old, he⟩, ⟨o, ho, hc, hd⟩, _⟩ := st
    have e' : b = e ∨ b = it := by simpa using hb
    rcases e' with z | z
    · rw [z]; exact ⟨_, he, fun v q => nomatch q⟩
    · rw [z]; exact ⟨o, ho, fun v q => by rw [hd] at q; cases q⟩
  keep := fun i h h' st k => let ⟨⟨old, he⟩, hi, hne⟩ := st; ⟨⟨old, k e (by simp) _ he⟩, hi.at fun o q => k it (by simp) o q, hne⟩
  item := by
    intro X hP hw hK hc i pins s σ H E I hf st hg
    subst hP hw hK
    obtain ⟨⟨old, he⟩, hit, hne, hea, hai⟩ := st
    obtain ⟨xs, x, hq, hx⟩ := hg
    obtain ⟨its, rv, p, hz⟩ := I.tuple hq
    obtain ⟨u, hu, ru⟩ := rv.get hx
    have hel : e < s.heap.objs.size := Heap.lt_size he
    have hil : it < s.heap.objs.size := by obtain ⟨_, q, _⟩ := hit; exact Heap.lt_size q
    have hlt : i < its.toArray.size := by
      have := (List.getElem?_eq_some_iff.mp hu).1
      rw [List.size_toArray]
      exact this
    refine wpAny_pyNext_enum_itemD (Draws.tuple (A := X.A.in1) (I.ok.hd hc) it a hai its.toArray) he ⟨hit, p⟩ hlt hne (by simp [hne, hea]) fun x' h' tk hx' ho hst' hT hsz hk => ?_
    have hxu : x' = u := by
      rw [List.getElem?_toArray, hu] at hx'
      exact (Option.some.inj hx').symm
    subst hxu
    refine ⟨_, rfl, wpAny_letOwnedTupleGo_enum (s := { s with heap := h', toks := tk + 1 }) ho fun h'' he' sb => ?_⟩
    have hT2 : h''.get? s.heap.objs.size = some { cls := .type "tuple", data := .seq #[.int i tk, x'] } := (sb.2 _ (Nat.ne_of_gt hel)).trans hT
    have new : ObjOk X.prog X.w (upd H s.heap.objs.size (.tup [.int (i : Nat), x])) h'' s.heap.objs.size (.tup [.int (i : Nat), x]) :=
      ⟨by show 2 ≤ sizeLine; decide, [.int i tk, x'], .cons ⟨_, rfl⟩ (.cons ru .nil), ⟨_, hT2, rfl, _, rfl⟩⟩
    have I1 : L2.Inv X pins σ (upd H s.heap.objs.size (.tup [.int (i : Nat), x])) { s with heap := h'', toks := tk + 1 } :=
      I.turnedNew (ch := [e, it]) (fun b ob hb q => (sb.2 b (fun z => hb (by simp [z]))).trans (hk b ob (fun z => hb (by simp [z])) (fun z => hb (by simp [z])) q)) hf (Nat.le_refl _) new
    refine ⟨.ref s.heap.objs.size, _, I1, rfl, ⟨_, x, rfl, I.hok.fresh (Nat.le_refl _), rfl, fun ys hy => by rw [I.tuple_inj hy hq]; exact hx⟩, ⟨⟨x', ?_⟩, hst'.1.at fun o q => (sb.2 it (Ne.symm hne)).trans q, hne, hea, hai⟩, fun b hb => ?_⟩
    · have e1 : ((i + 1 : Nat) : Int) = (i : Int) + 1 := by omega
      rw [e1]; exact he'
    · have hb' : b < s.heap.objs.size := by
        have e' : b = e ∨ b = it := by simpa using hb
        rcases e' with z | z
        · rw [z]; exact hel
        · rw [z]; exact hil
      rw [upd_ne (Nat.ne_of_lt hb')]
      exact (hf b hb).1
  done := by
    intro X hP hw hK hc i pins s σ H E I hf st hg
    subst hP hw hK
    obtain ⟨⟨old, he⟩, hit, hne, hea, hai⟩ := st
    obtain ⟨xs, hq, hx⟩ := hg
    obtain ⟨its, rv, p, hz⟩ := I.tuple hq
    obtain ⟨f0, f1, f2, f3, f4, f5⟩ := hf it (by simp)
    have hl := rv.length
    exact enum_endT (I.ok.hd hc) he hit p (by simp; omega) fun h' eb => ⟨rfl, I.turned (t' := s.toks) (fun b o hb q => eb b o hb q) f0 f1 f3 f4 f5⟩
  self := fun A i s Q E st h => let ⟨⟨_, he⟩, _⟩ := st; wpAny_pyIter_enum he h
def iEnumA (K : PySem.W.Frag) (ta : TA) : TI := fun σ H R => ta σ H fun vs H1 => ∃ a xs, vs = [.ref a] ∧ ((SqL K H1 a xs ∧ R (Ite K a) H1) ∨ (SqT K H1 a xs ∧ R (IteT K a) H1))
theorem pi_enumA {X : Cx} {e : Expr} {ta : TA} {p pos tpos : Pos} {elts : List Expr} {kk : Nat} (hg : Gl X "enumerate") (hm : X.mg "enumerate" = none) (ha : PA X [e] ta) (hs : starEach [e] X.env = [(false, eval e X.env)] := by rfl) :
    PI X (.Tuple elts kk tpos) (.Call (.Name "enumerate" p) [e] [] pos) (iEnumA X.K ta) := by
  refine ⟨fun pins s σ H R I h => ?_⟩
  refine Call_ (ld_blt I hg hm boot_enumerate (PyProof.Rows.callWith_type1 (thn (ha.run pos pins s σ H _ I h) fun us s1 ⟨vs, H1, I1, r1, q1⟩ => ?_) hs rfl))
  obtain ⟨a, xs, ex, q⟩ := q1
  subst ex
  cases r1 with
  | cons r rr =>
    cases rr
    cases r
    have fpk : ∀ b ∈ [s1.heap.objs.size + 1, s1.heap.objs.size], FpOk X pins H1 b := fun b hb => by
      have e' : b = s1.heap.objs.size + 1 ∨ b = s1.heap.objs.size := by simpa using hb
      have hle : s1.heap.objs.size ≤ b := by
        rcases e' with z | z
        · rw [z]; exact Nat.le_add_right _ _
        · rw [z]; exact Nat.le_refl _
      exact I1.fpOk hle (I1.hok.fresh hle)
    rcases q with ⟨hq, q⟩ | ⟨hq, q⟩
    · obtain ⟨its, rv, p', hz⟩ := I1.list hq
      refine call_enumerate_list p'.isList fun h' he hit hsz hk => wpAny_pyIter_enum he ?_
      have I2 : L2.Inv X pins σ H1 { s1 with heap := h' } := I1.kept (t' := s1.toks) hk
      exact ⟨s1.heap.objs.size + 1, [s1.heap.objs.size + 1, s1.heap.objs.size], _, _, H1, rfl, I2, turn_enum a (s1.heap.objs.size + 1) s1.heap.objs.size, ⟨⟨.none, he⟩, hit, Nat.succ_ne_self _⟩, fpk, q⟩
    · obtain ⟨its, rv, p', hz⟩ := I1.tuple hq
      have ha : a < s1.heap.objs.size := by
        obtain ⟨o, ho, _⟩ := id p'
        exact Heap.lt_size ho
      refine call_enumerate_tuple p' fun h' he hit hsz hk => wpAny_pyIter_enum he ?_
      have I2 : L2.Inv X pins σ H1 { s1 with heap := h' } := I1.kept (t' := s1.toks) hk
      exact ⟨s1.heap.objs.size + 1, [s1.heap.objs.size + 1, s1.heap.objs.size], _, _, H1, rfl, I2, turn_enumT a (s1.heap.objs.size + 1) s1.heap.objs.size, ⟨⟨.none, he⟩, hit, Nat.succ_ne_self _, Nat.ne_of_gt (Nat.lt_succ_of_lt ha), Nat.ne_of_lt ha⟩, fpk, q⟩
/-! ### zip(list, tuple) -/
def ItzM (K : PySem.W.Frag) (a b : Addr) : It :=
  ⟨fun i H => ∃ (xs ys : List V) (x y : V), SqL K H a xs ∧ SqT K H b ys ∧ xs[i]? = some x ∧ ys[i]? = some y,
    fun i H v H' => ∃ T x y, v = .ref T ∧ H T = none ∧ H' = upd H T (.tup [x, y]) ∧ (∀ xs, SqL K H a xs → xs[i]? = some x) ∧ ∀ ys, SqT K H b ys → ys[i]? = some y,
    fun i H => ∃ xs ys : List V, SqL K H a xs ∧ SqT K H b ys ∧ i ≤ xs.length ∧ i ≤ ys.length ∧ (i = xs.length ∨ i = ys.length)⟩
section
variable {prog : Program} {w : World} {A : Around} {E : Value → Shared → Prop} {s : Shared} {z TI TO i1 i2 : Addr} {fp1 fp2 : List Addr} {n1 n2 i : Nat} {P1 P2 : Nat → Value → Prop} {St1 St2 : Nat → Heap → Prop} {a1 a2 : Value}
theorem zipD2_item {Q : Option Value → Shared → Prop} (S : ZipSep2 z TI TO i1 i2 fp1 fp2) (D1 : Draws prog w A.in1 i1 fp1 n1 P1 St1) (D2 : Draws prog w A.in1 i2 fp2 n2 P2 St2)
    (hz : IsZip s.heap z TI TO .none) (hTI : IsTupOf2 s.heap TI (.ref i1) (.ref i2)) (hTO : IsTupOf2 s.heap TO a1 a2) (st1 : St1 i s.heap) (st2 : St2 i s.heap) (hlt1 : i < n1) (hlt2 : i < n2)
    (hQ : ∀ x1 x2 h' tk, P1 i x1 → P2 i x2 → IsZip h' z TI TO (rawInt s.heap.objs.size) → IsTupOf2 h' TO x1 x2 → St1 (i + 1) h' → St2 (i + 1) h' → IsTupOf2 h' s.heap.objs.size x1 x2 → h'.objs.size = s.heap.objs.size + 1 →
      (∀ c o, c ≠ z → c ≠ TO → c ≠ i1 → c ≠ i2 → s.heap.get? c = some o → h'.get? c = some o) → Q (some (.ref s.heap.objs.size)) { s with heap := h', toks := tk }) :
    wpAny (model prog w) A (pyNext (.ref z)) Q E s := by
  have hT : s.TypeIs (.ref z) "zip" := ⟨_, hz, rfl⟩
  unfold pyNext
  exact wpAny_bind (wpAny_attempt (wpAny_callSpecial?_slot (name := Str.ofString "__next__") hT F.slot_zip_next
    (wpAny_call_entry F.slot_zip_next hT F.entry_zip_next
      (zipD2_next_item S D1 D2 hz hTI hTO st1 st2 hlt1 hlt2 fun x1 x2 h' tk a1 a2 a3 a4 a5 a6 a7 a8 a9 => wpAny_pure (hQ x1 x2 h' tk a1 a2 a3 a4 a5 a6 a7 a8 a9)) (F.args_zip_next_1 _))))
theorem zipD2_end {Q : Option Value → Shared → Prop} (S : ZipSep2 z TI TO i1 i2 fp1 fp2) (D1 : Draws prog w A.in1 i1 fp1 n1 P1 St1) (D2 : Draws prog w A.in1 i2 fp2 n2 P2 St2)
    (hz : IsZip s.heap z TI TO .none) (hTI : IsTupOf2 s.heap TI (.ref i1) (.ref i2)) (hTO : IsTupOf2 s.heap TO a1 a2) (st1 : St1 i s.heap) (st2 : St2 i s.heap) (hle1 : i ≤ n1) (hle2 : i ≤ n2) (hend : i = n1 ∨ i = n2)
    (hQ : ∀ h' tk, (∀ c o, c ≠ z → c ≠ TO → c ≠ i1 → c ≠ i2 → s.heap.get? c = some o → h'.get? c = some o) → Q none { s with heap := h', toks := tk }) : wpAny (model prog w) A (pyNext (.ref z)) Q E s := by
  have hT : s.TypeIs (.ref z) "zip" := ⟨_, hz, rfl⟩
  unfold pyNext
  refine wpAny_bind (wpAny_attempt (wpAny_callSpecial?_slot (name := Str.ofString "__next__") hT F.slot_zip_next
    (wpAny_call_entry F.slot_zip_next hT F.entry_zip_next (zipD2_next_end S D1 D2 hz hTI hTO st1 st2 hle1 hle2 hend fun h' tk e hk he => ?_) (F.args_zip_next_1 _))))
  obtain ⟨o, ho, hc⟩ := he
  refine wpAny_bind (wpAny_isInstance (T := "StopIteration") (b := true) ⟨o, ho, hc⟩ isSubtype_stop ?_)
  exact wpAny_pure (hQ _ _ hk)
end
theorem turn_zipM {P : Program} {w : World} {K : PySem.W.Frag} {elts : List Expr} {kk : Nat} {tpos : Pos} {a b z TI TO i1 i2 : Addr} (D : ZipSep2 z TI TO i1 i2 [i1, a] [i2, b]) (ha : a ≠ i1) (hb : b ≠ i2) :
    Turn P w K (.Tuple elts kk tpos) (ItzM K a b) [z, TI, TO, i1, i2] z (fun i h => IsZip h z TI TO .none ∧ IsTupOf2 h TI (.ref i1) (.ref i2) ∧ (∃ x y, IsTupOf2 h TO x y) ∧ h.IsListIter i1 a i ∧ h.IsTupleIter i2 b i) where
  mem := by simp
  obj := fun i h st c hc => by
    obtain ⟨hz, hTI, ⟨x, y, hTO⟩, ⟨o1, e1, _, d1⟩, ⟨o2, e2, _, d2⟩⟩ := st
    have e' : c = z ∨ c = TI ∨ c = TO ∨ c = i1 ∨ c = i2 := by simpa using hc
    rcases e' with q | q | q | q | q
    · rw [q]; exact ⟨_, hz, fun v q => nomatch q⟩
    · rw [q]; exact ⟨_, hTI, fun v q => nomatch q⟩
    · rw [q]; exact ⟨_, hTO, fun v q => nomatch q⟩
    · rw [q]; exact ⟨o1, e1, fun v q => by rw [d1] at q; cases q⟩
    · rw [q]; exact ⟨o2, e2, fun v q => by rw [d2] at q; cases q⟩
  keep := fun i h h' st k => by
    obtain ⟨hz, hTI, ⟨x, y, hTO⟩, h1, h2⟩ := st
    exact ⟨k z (by simp) _ hz, k TI (by simp) _ hTI, ⟨x, y, k TO (by simp) _ hTO⟩, h1.at fun o q => k i1 (by simp) o q, h2.at fun o q => k i2 (by simp) o q⟩
  item := by
    intro X hP hw hK hc i pins s σ H E I hf st hg
    subst hP hw hK
    obtain ⟨hz, hTI, ⟨x0, y0, hTO⟩, h1, h2⟩ := st
    obtain ⟨xs, ys, x, y, hqx, hqy, hx, hy⟩ := hg
    obtain ⟨its, rv, p, _⟩ := I.list hqx
    obtain ⟨its2, rv2, p2, _⟩ := I.tuple hqy
    obtain ⟨u, hu, ru⟩ := rv.get hx
    obtain ⟨u2, hu2, ru2⟩ := rv2.get hy
    have hzl : z < s.heap.objs.size := Heap.lt_size hz
    have l1 : i < its.toArray.size := by
      rw [List.size_toArray]
      exact (List.getElem?_eq_some_iff.mp hu).1
    have l2 : i < its2.toArray.size := by
      rw [List.size_toArray]
      exact (List.getElem?_eq_some_iff.mp hu2).1
    refine zipD2_item D (Draws.list (A := X.A.in1) (I.ok.hd hc) i1 a ha its.toArray) (Draws.tuple (A := X.A.in1) (I.ok.hd hc) i2 b hb its2.toArray) hz hTI hTO ⟨h1, p.isList⟩ ⟨h2, p2⟩ l1 l2 fun x1 x2 h' tk q1 q2 z' TO' h1' h2' hT hsz hk => ?_
    have e1 : x1 = u := by
      rw [List.getElem?_toArray, hu] at q1
      exact (Option.some.inj q1).symm
    have e2 : x2 = u2 := by
      rw [List.getElem?_toArray, hu2] at q2
      exact (Option.some.inj q2).symm
    subst e1 e2
    refine ⟨_, rfl, wpAny_letOwnedTupleGo_zip (s := { s with heap := h', toks := tk }) z' fun h'' z'' sb => ?_⟩
    have hT2 : h''.get? s.heap.objs.size = some { cls := .type "tuple", data := .seq #[x1, x2] } := (sb.2 _ (Nat.ne_of_gt hzl)).trans hT
    have new : ObjOk X.prog X.w (upd H s.heap.objs.size (.tup [x, y])) h'' s.heap.objs.size (.tup [x, y]) :=
      ⟨by show 2 ≤ sizeLine; decide, [x1, x2], .cons ru (.cons ru2 .nil), ⟨_, hT2, rfl, _, rfl⟩⟩
    have I1 : L2.Inv X pins σ (upd H s.heap.objs.size (.tup [x, y])) { s with heap := h'', toks := tk } :=
      I.turnedNew (t' := tk) (ch := [z, TI, TO, i1, i2]) (fun c o hb q => (sb.2 c (fun q' => hb (by simp [q']))).trans (hk c o (fun q' => hb (by simp [q'])) (fun q' => hb (by simp [q'])) (fun q' => hb (by simp [q'])) (fun q' => hb (by simp [q'])) q)) hf (Nat.le_refl _) new
    refine ⟨.ref s.heap.objs.size, _, I1, rfl, ⟨_, x, y, rfl, I.hok.fresh (Nat.le_refl _), rfl, fun l hl => by rw [I.list_inj hl hqx]; exact hx, fun l hl => by rw [I.tuple_inj hl hqy]; exact hy⟩, ⟨z'', ?_, ⟨x1, x2, ?_⟩, ?_, ?_⟩, fun c hcm => ?_⟩
    · exact (sb.2 _ D.TIz).trans (hk _ _ D.TIz D.TITO D.TIi1 D.TIi2 hTI)
    · exact (sb.2 _ D.TOz).trans TO'
    · exact h1'.1.at fun o q => (sb.2 _ D.zi1.symm).trans q
    · exact h2'.1.at fun o q => (sb.2 _ D.zi2.symm).trans q
    · have hlt : c < s.heap.objs.size := by
        have e' : c = z ∨ c = TI ∨ c = TO ∨ c = i1 ∨ c = i2 := by simpa using hcm
        rcases e' with q | q | q | q | q
        · rw [q]; exact hzl
        · rw [q]; exact Heap.lt_size hTI
        · rw [q]; exact Heap.lt_size hTO
        · rw [q]; obtain ⟨_, e1, _⟩ := h1; exact Heap.lt_size e1
        · rw [q]; obtain ⟨_, e2, _⟩ := h2; exact Heap.lt_size e2
      rw [upd_ne (Nat.ne_of_lt hlt)]
      exact (hf c hcm).1
  done := by
    intro X hP hw hK hc i pins s σ H E I hf st hg
    subst hP hw hK
    obtain ⟨hz, hTI, ⟨x0, y0, hTO⟩, h1, h2⟩ := st
    obtain ⟨xs, ys, hqx, hqy, g1, g2, hend⟩ := hg
    obtain ⟨its, rv, p, _⟩ := I.list hqx
    obtain ⟨its2, rv2, p2, _⟩ := I.tuple hqy
    have l1 := rv.length
    have l2 := rv2.length
    exact zipD2_end D (Draws.list (A := X.A.in1) (I.ok.hd hc) i1 a ha its.toArray) (Draws.tuple (A := X.A.in1) (I.ok.hd hc) i2 b hb its2.toArray) hz hTI hTO ⟨h1, p.isList⟩ ⟨h2, p2⟩ (by rw [List.size_toArray, ← l1]; exact g1) (by rw [List.size_toArray, ← l2]; exact g2)
      (by rw [List.size_toArray, List.size_toArray, ← l1, ← l2]; exact hend) fun h' tk hk => ⟨rfl, I.turnedL (t' := tk) (ch := [z, TI, TO, i1, i2]) (fun c o hb q =>
      hk c o (fun q' => hb (by simp [q'])) (fun q' => hb (by simp [q'])) (fun q' => hb (by simp [q'])) (fun q' => hb (by simp [q'])) q) hf⟩
  self := fun A i s Q E st h => wpAny_pyIter_zip st.1 h
def iZipM (K : PySem.W.Frag) (ta : TA) : TI := fun σ H R => ta σ H fun vs H1 => ∃ a b xs ys, vs = [.ref a, .ref b] ∧ SqL K H1 a xs ∧ SqT K H1 b ys ∧ R (ItzM K a b) H1
theorem pi_zipM {X : Cx} {e e2 : Expr} {ta : TA} {p pos tpos : Pos} {elts : List Expr} {kk : Nat} (hg : Gl X "zip") (hm : X.mg "zip" = none) (ha : PA X [e, e2] ta)
    (hs : starEach [e, e2] X.env = (false, eval e X.env) :: starEach [e2] X.env := by rfl) (hpl : (backTo pos (starEach [e2] X.env)).any (·.1) = false := by rfl) :
    PI X (.Tuple elts kk tpos) (.Call (.Name "zip" p) [e, e2] [] pos) (iZipM X.K ta) := by
  refine ⟨fun pins s σ H R I h => ?_⟩
  refine Call_ (ld_blt I hg hm PyProof.Rows.boot_zip (PyProof.Rows.callWith_type1 (thn (ha.run pos pins s σ H _ I h) fun us s1 ⟨vs, H1, I1, r1, q1⟩ => ?_) hs hpl))
  obtain ⟨a, b, xs, ys, ex, hqx, hqy, q⟩ := q1
  subst ex
  cases r1 with
  | cons r rr =>
    cases rr with
    | cons r' rr =>
      cases rr
      cases r
      cases r'
      have fresh5 : ∀ c, c ∈ [s1.heap.objs.size + 4, s1.heap.objs.size + 2, s1.heap.objs.size + 3, s1.heap.objs.size, s1.heap.objs.size + 1] → FpOk X pins H1 c := fun c hcm => by
        have e' : c = s1.heap.objs.size + 4 ∨ c = s1.heap.objs.size + 2 ∨ c = s1.heap.objs.size + 3 ∨ c = s1.heap.objs.size ∨ c = s1.heap.objs.size + 1 := by simpa using hcm
        have hle : s1.heap.objs.size ≤ c := by
          rcases e' with z | z | z | z | z
          · rw [z]; exact Nat.le_add_right _ _
          · rw [z]; exact Nat.le_add_right _ _
          · rw [z]; exact Nat.le_add_right _ _
          · rw [z]; exact Nat.le_refl _
          · rw [z]; exact Nat.le_add_right _ _
        exact I1.fpOk hle (I1.hok.fresh hle)
      obtain ⟨its, rv, p1, _⟩ := I1.list hqx
      obtain ⟨its2, rv2, p2, _⟩ := I1.tuple hqy
      have la : a < s1.heap.objs.size := p1.lt
      have lb : b < s1.heap.objs.size := by
        obtain ⟨o2, ho2, _⟩ := id p2
        exact Heap.lt_size ho2
      refine zip_begins2 (begins_list a its.toArray) (begins_tuple b its2.toArray) p1.isList p2 fun h' hz hTI hTO h1 h2 hsz hk => wpAny_pyIter_zip hz ?_
      have I2 : L2.Inv X pins σ H1 { s1 with heap := h' } := I1.kept (t' := s1.toks) hk
      exact ⟨s1.heap.objs.size + 4, [s1.heap.objs.size + 4, s1.heap.objs.size + 2, s1.heap.objs.size + 3, s1.heap.objs.size, s1.heap.objs.size + 1], _, _, H1, rfl, I2,
        turn_zipM (zip_sep2 (fp1 := [a]) (fp2 := [b]) (fun c hc => by rw [List.mem_singleton.mp hc]; exact la) (fun c hc => by rw [List.mem_singleton.mp hc]; exact lb)) (Nat.ne_of_lt la) (Nat.ne_of_lt (Nat.lt_succ_of_lt lb)), ⟨hz, hTI, ⟨_, _, hTO⟩, ⟨_, h1, rfl, rfl⟩, ⟨_, h2, rfl, rfl⟩⟩, fresh5, q⟩
end K14
/-! R7 -/
set_option Elab.async false
set_option linter.all false
set_option maxRecDepth 100000
set_option maxHeartbeats 4000000
/-! R7: == of dicts, both answers: rows, tables of rows, a row and {}. -/
namespace K14
open PySem PySem.Spec PyProof.Rows L2
inductive HitB (F : V → V → Bool → Prop) (ls : List (Key × V)) : List (Key × V) → Bool → Prop
  | nil : HitB F ls [] true
  | miss {k : Key} {v : V} {r : List (Key × V)} : valV ls k = none → HitB F ls ((k, v) :: r) false
  | hit {k : Key} {v u : V} {r : List (Key × V)} {e b : Bool} : valV ls k = some u → F v u e → HitB F ls r b → HitB F ls ((k, v) :: r) (e && b)
theorem hitB_run {P : Program} {w : World} {A : Around} {s : Shared} {F : V → V → Bool → Prop} (ih : ∀ x y v u e, F x y e → RelV x v → RelV y u → SeqAt.EqP P w A s v u e) {ls : List (Key × V)} {vb : List (Key × Value)} (rb : KV ls vb) {ks : List (Key × V)} {va : List (Key × Value)}
    (ra : KV ks va) {r : Bool} (h : HitB F ls ks r) : PySem.W.KeqHitsP P w A s vb va r := by
  unfold KV at ra
  induction ra generalizing r with
  | nil =>
    cases h
    exact .nil
  | @cons p q ps qs h1 t k =>
    obtain ⟨a1, a2⟩ := h1
    obtain ⟨key, v⟩ := q
    obtain ⟨pk, pv⟩ := p
    have e1 : pk = key := a1
    subst e1
    cases h with
    | miss hn =>
      have rr : RelO none (valueAt vb pk) := by rw [← hn]; exact rb.val pk
      refine .miss ?_
      cases hv : valueAt vb pk with
      | none => rfl
      | some z =>
        rw [hv] at rr
        exact rr.elim
    | @hit _ _ u _ e b hy hf hr =>
      have rr : RelO (some u) (valueAt vb pk) := by rw [← hy]; exact rb.val pk
      obtain ⟨y, hy2, ry⟩ := rr.some_of
      exact .hit hy2 (ih _ _ _ _ _ hf a2 ry) (k hr)
theorem hitB_ex {F : V → V → Bool → Prop} {R : V → V → Prop} {ls : List (Key × V)} : ∀ {ks : List (Key × V)}, (∀ p ∈ ks, ∀ u, valV ls p.1 = some u → ∃ e, F p.2 u e ∧ (e = true ↔ R p.2 u)) → ∃ r, HitB F ls ks r ∧ (r = true ↔ ∀ p ∈ ks, ∃ u, valV ls p.1 = some u ∧ R p.2 u)
  | [], _ => ⟨true, .nil, ⟨fun _ p hp => (nomatch hp), fun _ => rfl⟩⟩
  | p :: ks, h => by
    obtain ⟨r, hr, er⟩ := hitB_ex (ks := ks) fun q hq => h q (List.mem_cons_of_mem _ hq)
    cases hv : valV ls p.1 with
    | none =>
      refine ⟨false, .miss hv, ⟨fun e => (nomatch e), fun hh => ?_⟩⟩
      obtain ⟨u, hu, _⟩ := hh p List.mem_cons_self
      rw [hv] at hu
      cases hu
    | some u =>
      obtain ⟨e, he, ee⟩ := h p List.mem_cons_self u hv
      refine ⟨e && r, .hit hv he hr, ?_⟩
      rw [Bool.and_eq_true, ee, er]
      constructor
      · rintro ⟨a, b⟩ q hq
        rcases List.mem_cons.mp hq with z | hq
        · rw [z]
          exact ⟨u, hv, a⟩
        · exact b q hq
      · intro hh
        refine ⟨?_, fun q hq => hh q (List.mem_cons_of_mem _ hq)⟩
        obtain ⟨u2, hu2, r2⟩ := hh p List.mem_cons_self
        rw [hv] at hu2
        rw [Option.some.inj hu2]
        exact r2
/-- two numbers -/
def FI (x y : V) (e : Bool) : Prop := ∃ i j : Int, x = .int i ∧ y = .int j ∧ e = decide (i = j)
/-- two dicts of numbers -/
def FD (H : Hp) (x y : V) (e : Bool) : Prop := ∃ a b ka kb r, x = .ref a ∧ y = .ref b ∧ H a = some (.dK ka) ∧ H b = some (.dK kb) ∧ HitB FI kb ka r ∧ e = (ka.length == kb.length && r) ∧ (a = b → e = true)
section
variable {X : Cx} {pins : List (Addr × Obj)} {σ : L2.St} {H : Hp} {s : Shared}
theorem fi_run {P : Program} {w : World} {A : Around} (hu : A.units < cLine) (x y : V) (v u : Value) (e : Bool) (h : FI x y e) (rx : RelV x v) (ry : RelV y u) : SeqAt.EqP P w A s v u e := by
  obtain ⟨i, j, rfl, rfl, rfl⟩ := h
  obtain ⟨t, rfl⟩ := rx
  obtain ⟨t', rfl⟩ := ry
  exact (PySem.W.eqAt_datum (α := Int) (PySem.W.holds_int i t) (PySem.W.holds_int j t') (by show A.units + 0 < cLine; omega)).eqP
theorem dicts_run (I : L2.Inv X pins σ H s) {A : Around} {F : V → V → Bool → Prop} (hu : A.units < cLine) (ih : ∀ x y v u e, F x y e → RelV x v → RelV y u → SeqAt.EqP X.prog X.w A.in1 s v u e) {a b : Addr} {ka kb : List (Key × V)} {r : Bool} (ha : H a = some (.dK ka)) (hb : H b = some (.dK kb))
    (h : ka.length = kb.length → HitB F kb ka r) (E Q : Value → Shared → Prop) (q : Q (.bool (ka.length == kb.length && r)) s) : wpAny (model X.prog X.w) A (richCompare .Eq (.ref a) (.ref b)) Q E s := by
  obtain ⟨_, ya, va, ra, da⟩ := (show ObjOk X.prog X.w H s.heap a (.dK ka) from I.hok a _ ha)
  obtain ⟨_, yb, vb, rb, db⟩ := (show ObjOk X.prog X.w H s.heap b (.dK kb) from I.hok b _ hb)
  have la := ra.length
  have lb := rb.length
  refine PySem.W.rcP_dicts (knd := mixKind X.prog X.w) (r := r) ya yb da db hu (fun e => hitB_run ih rb ra (h (by omega))) E Q ?_
  rw [← la, ← lb]
  exact q
theorem fd_run (I : L2.Inv X pins σ H s) {A : Around} (hu : A.units + 2 < cLine) (x y : V) (v u : Value) (e : Bool) (h : FD H x y e) (rx : RelV x v) (ry : RelV y u) : SeqAt.EqP X.prog X.w A s v u e := by
  obtain ⟨a, b, ka, kb, r, rfl, rfl, ha, hb, hit, ee, es⟩ := h
  cases (show v = Value.ref a from rx)
  cases (show u = Value.ref b from ry)
  by_cases eab : a = b
  · rw [es eab]
    subst eab
    exact (SeqAt.EqAt.same _).eqP
  · rw [ee]
    have step := dicts_run I (A := A) (F := FI) (by omega) (fun x y v u e h => fi_run (by show A.units + 1 < cLine; omega) x y v u e h) ha hb (fun _ => hit)
    exact SeqAt.eqP_refs eab step
end
/-! ### what the answers mean -/
theorem sub_back {α : Type} [DecidableEq α] {l m : List α} (nd : l.Nodup) (h : ∀ x ∈ l, x ∈ m) (hl : l.length = m.length) : ∀ x ∈ m, x ∈ l := fun x hx => Decidable.byContradiction fun n => by
  have := len_sub (l := x :: l) (m := m) (List.nodup_cons.mpr ⟨n, nd⟩) fun y hy => by
    rcases List.mem_cons.mp hy with e | hy
    · rw [e]
      exact hx
    · exact h y hy
  rw [List.length_cons] at this
  omega
theorem len_same {α : Type} [DecidableEq α] {l m : List α} (n1 : l.Nodup) (n2 : m.Nodup) (h : ∀ x, x ∈ l ↔ x ∈ m) : l.length = m.length := Nat.le_antisymm (len_sub n1 fun x hx => (h x).mp hx) (len_sub n2 fun x hx => (h x).mpr hx)
theorem rows_eq {W W' : List Str} {q : Int} {ka kb : List (Key × V)} {f g : Str → Int} (Ra : Rw W q ka f) (Rb : Rw W' q kb g) : ∃ r, HitB FI kb ka r ∧ ((ka.length == kb.length && r) = true ↔ f = g) := by
  obtain ⟨r, hr, er⟩ := hitB_ex (F := FI) (R := fun x y => x = y) (ls := kb) (ks := ka) fun p hp u hu => by
    obtain ⟨x, ex, _⟩ := Ra.ks p hp
    subst ex
    rw [Rb.at_ x] at hu
    split at hu
    · cases hu
    · obtain rfl := Option.some.inj hu
      refine ⟨_, ⟨f x, g x, rfl, rfl, rfl⟩, ?_⟩
      rw [decide_eq_true_iff]
      exact ⟨fun e => by rw [e], fun e => V.int.inj e⟩
  refine ⟨r, hr, ?_⟩
  rw [Bool.and_eq_true, er, beq_iff_eq]
  have la := congrArg List.length Ra.toTb.names
  have lb := congrArg List.length Rb.toTb.names
  rw [List.length_map, List.length_map] at la lb
  have na := tbK_nd Ra.toTb.names Ra.nd
  have nb := tbK_nd Rb.toTb.names Rb.nd
  have ma : ∀ x, x ∈ tbK ka ↔ f x ≠ 0 := fun x => by
    rw [tbK_mem Ra.toTb.names]
    exact ⟨Ra.nz x, fun h e => h (Ra.out x e)⟩
  have mb : ∀ x, x ∈ tbK kb ↔ g x ≠ 0 := fun x => by
    rw [tbK_mem Rb.toTb.names]
    exact ⟨Rb.nz x, fun h e => h (Rb.out x e)⟩
  constructor
  · rintro ⟨hl, h⟩
    have h1 : ∀ x, f x ≠ 0 → g x = f x := fun x hx => by
      have hin := Ra.at_ x
      rw [if_neg hx] at hin
      obtain ⟨u, hu, e⟩ := h _ (valV_mem hin)
      have hu : valV kb (Sum.inr x : Key) = some u := hu
      rw [← e, Rb.at_ x] at hu
      split at hu
      · cases hu
      · exact V.int.inj (Option.some.inj hu)
    have hsub : ∀ x ∈ tbK ka, x ∈ tbK kb := fun x hx => (mb x).mpr (by rw [h1 x ((ma x).mp hx)]; exact (ma x).mp hx)
    have hb := sub_back na hsub (by omega)
    funext x
    by_cases z : f x = 0
    · rw [z]
      exact (Decidable.byContradiction fun n => (ma x).mp (hb x ((mb x).mpr n)) z : g x = 0).symm
    · exact (h1 x z).symm
  · intro e
    subst e
    refine ⟨?_, fun p hp => ?_⟩
    · have := len_same na nb fun x => (ma x).trans (mb x).symm
      omega
    · obtain ⟨x, ex, _⟩ := Ra.ks p hp
      subst ex
      have hz : f x ≠ 0 := Ra.nz x (by
        show valV ka (Sum.inr x : Key) ≠ none
        rw [valV_of_mem Ra.nd hp]
        exact fun z => nomatch z)
      exact ⟨_, (by rw [Rb.at_ x, if_neg hz]), rfl⟩
theorem ldK_mem {L : Ld} {p : Key × V} (h : p ∈ L.map fun p => ((Sum.inr p.1 : Key), V.ref p.2.1)) : ∃ u ∈ L, p = ((Sum.inr u.1 : Key), V.ref u.2.1) := by
  obtain ⟨u, hu, e⟩ := List.mem_map.mp h
  exact ⟨u, hu, e.symm⟩
section
variable {W W' : List Str} {q : Int} {H : Hp} {D D' : Addr} {L L' : Ld}
theorem leads_eq (h1 : LeadsAt W q H D L) (h2 : LeadsAt W' q H D' L') (n1 : (L.map (·.1)).Nodup) (n2 : (L'.map (·.1)).Nodup) :
    ∃ r, HitB (FD H) (ldK L') (ldK L) r ∧ (((ldK L).length == (ldK L').length && r) = true ↔ ∀ x f, (∃ a, (x, a, f) ∈ L) ↔ ∃ a, (x, a, f) ∈ L') := by
  have nk : ∀ {M : Ld}, (M.map (·.1)).Nodup → ((ldK M).map (·.1)).Nodup := fun {M} h => by
    have : (ldK M).map (·.1) = (M.map (·.1)).map Sum.inr := by
      unfold ldK
      rw [List.map_map, List.map_map]
      rfl
    rw [this]
    exact nodup_map_inr h
  have at_ : ∀ {M : Ld}, (M.map (·.1)).Nodup → ∀ {u}, u ∈ M → valV (ldK M) (Sum.inr u.1 : Key) = some (.ref u.2.1) := fun {M} h {u} hu => valV_of_mem (nk h) (List.mem_map.mpr ⟨u, hu, rfl⟩)
  have uq : ∀ {M : Ld}, (M.map (·.1)).Nodup → ∀ {u v}, u ∈ M → v ∈ M → u.1 = v.1 → u = v := fun {M} h {u v} hu hv e => by
    obtain ⟨i, e1⟩ := List.mem_iff_getElem?.mp hu
    obtain ⟨j, e2⟩ := List.mem_iff_getElem?.mp hv
    have g1 : (M.map (·.1))[i]? = some u.1 := by rw [List.getElem?_map, e1]; rfl
    have g2 : (M.map (·.1))[j]? = some u.1 := by rw [List.getElem?_map, e2]; exact congrArg some e.symm
    have := nd_ix h g1 g2
    subst this
    exact Option.some.inj (e1.symm.trans e2)
  obtain ⟨r, hr, er⟩ := hitB_ex (F := FD H) (R := fun x y => ∃ u ∈ L, ∃ v ∈ L', x = .ref u.2.1 ∧ y = .ref v.2.1 ∧ u.2.2 = v.2.2 ∧ u.1 = v.1) (ls := ldK L') (ks := ldK L) fun p hp v hv => by
    obtain ⟨u, hu, ep⟩ := ldK_mem hp
    subst ep
    obtain ⟨v', hv', ev⟩ := ldK_mem (valV_mem hv)
    have e1 : u.1 = v'.1 := Sum.inr.inj (congrArg (fun z : Key × V => z.1) ev)
    have e2 : v = .ref v'.2.1 := congrArg (fun z : Key × V => z.2) ev
    subst e2
    obtain ⟨ka, ha, Ra⟩ := h1.row u hu
    obtain ⟨kb, hb, Rb⟩ := h2.row v' hv'
    obtain ⟨r, hr, er⟩ := rows_eq Ra Rb
    refine ⟨_, ⟨u.2.1, v'.2.1, ka, kb, r, rfl, rfl, ha, hb, hr, rfl, fun e => er.mpr ?_⟩, ?_⟩
    · rw [e, hb] at ha
      injection ha with ha
      injection ha with ha
      subst ha
      funext x
      have a1 := Ra.at_ x
      have b1 := Rb.at_ x
      rw [b1] at a1
      by_cases z1 : u.2.2 x = 0
      · by_cases z2 : v'.2.2 x = 0
        · rw [z1, z2]
        · rw [if_pos z1, if_neg z2] at a1
          cases a1
      · by_cases z2 : v'.2.2 x = 0
        · rw [if_neg z1, if_pos z2] at a1
          cases a1
        · rw [if_neg z1, if_neg z2] at a1
          exact (V.int.inj (Option.some.inj a1)).symm
    · rw [er]
      constructor
      · intro ef
        exact ⟨u, hu, v', hv', rfl, rfl, ef, e1⟩
      · rintro ⟨u2, hu2, v2, hv2, a1, a2, a3, a4⟩
        obtain ⟨k1, g1, R1⟩ := h1.row u2 hu2
        obtain ⟨k2, g2, R2⟩ := h2.row v2 hv2
        have b1 : u.2.1 = u2.2.1 := V.ref.inj a1
        have b2 : v'.2.1 = v2.2.1 := V.ref.inj a2
        have same : ∀ {W1 W2 : List Str} {k : List (Key × V)} {f g : Str → Int}, Rw W1 q k f → Rw W2 q k g → f = g := fun {W1 W2 k f g} A B => by
          funext x
          have a1 := A.at_ x
          have b1 := B.at_ x
          rw [b1] at a1
          by_cases z1 : f x = 0
          · by_cases z2 : g x = 0
            · rw [z1, z2]
            · rw [if_pos z1, if_neg z2] at a1
              cases a1
          · by_cases z2 : g x = 0
            · rw [if_neg z1, if_pos z2] at a1
              cases a1
            · rw [if_neg z1, if_neg z2] at a1
              exact (V.int.inj (Option.some.inj a1)).symm
        rw [← b1, ha] at g1
        rw [← b2, hb] at g2
        injection g1 with g1
        injection g1 with g1
        injection g2 with g2
        injection g2 with g2
        subst g1
        subst g2
        rw [same Ra R1, same Rb R2, a3]
  refine ⟨r, hr, ?_⟩
  rw [Bool.and_eq_true, er, beq_iff_eq]
  have len1 : (ldK L).length = L.length := List.length_map _
  have len2 : (ldK L').length = L'.length := List.length_map _
  rw [len1, len2]
  have fwd : (∀ p ∈ ldK L, ∃ u, valV (ldK L') p.1 = some u ∧ ∃ u_1 ∈ L, ∃ v ∈ L', p.2 = V.ref u_1.2.1 ∧ u = V.ref v.2.1 ∧ u_1.2.2 = v.2.2 ∧ u_1.1 = v.1) → ∀ u ∈ L, ∃ a, (u.1, a, u.2.2) ∈ L' := fun h u hu => by
    obtain ⟨w, hw, u1, hu1, v, hv, a1, a2, a3, a4⟩ := h ((Sum.inr u.1 : Key), V.ref u.2.1) (List.mem_map.mpr ⟨u, hu, rfl⟩)
    obtain ⟨v', hv', ev⟩ := ldK_mem (valV_mem hw)
    have e1 : u.1 = v'.1 := Sum.inr.inj (congrArg (fun z : Key × V => z.1) ev)
    have e2 : w = .ref v'.2.1 := congrArg (fun z : Key × V => z.2) ev
    have hsame : u.2.2 = v'.2.2 := by
      have same : ∀ {W1 W2 : List Str} {k : List (Key × V)} {f g : Str → Int}, Rw W1 q k f → Rw W2 q k g → f = g := fun {W1 W2 k f g} A B => by
        funext x
        have a1 := A.at_ x
        have b1 := B.at_ x
        rw [b1] at a1
        by_cases z1 : f x = 0
        · by_cases z2 : g x = 0
          · rw [z1, z2]
          · rw [if_pos z1, if_neg z2] at a1
            cases a1
        · by_cases z2 : g x = 0
          · rw [if_neg z1, if_pos z2] at a1
            cases a1
          · rw [if_neg z1, if_neg z2] at a1
            exact (V.int.inj (Option.some.inj a1)).symm
      obtain ⟨ka, ha, Ra⟩ := h1.row u hu
      obtain ⟨kb, hb, Rb⟩ := h2.row v' hv'
      obtain ⟨k1, g1, R1⟩ := h1.row u1 hu1
      obtain ⟨k2, g2, R2⟩ := h2.row v hv
      have b1 : u.2.1 = u1.2.1 := V.ref.inj a1
      have b2 : v'.2.1 = v.2.1 := V.ref.inj (e2.symm.trans a2)
      rw [← b1, ha] at g1
      rw [← b2, hb] at g2
      injection g1 with g1
      injection g1 with g1
      injection g2 with g2
      injection g2 with g2
      subst g1
      subst g2
      rw [same Ra R1, same Rb R2, a3]
    exact ⟨v'.2.1, by
      have : (u.1, v'.2.1, u.2.2) = v' := by rw [e1, hsame]
      rw [this]
      exact hv'⟩
  constructor
  · rintro ⟨hl, h⟩
    have h := fwd h
    have hsub : ∀ x ∈ L.map (·.1), x ∈ L'.map (·.1) := fun x hx => by
      obtain ⟨u, hu, e⟩ := List.mem_map.mp hx
      obtain ⟨a, ha⟩ := h u hu
      exact List.mem_map.mpr ⟨_, ha, e⟩
    have hback := sub_back n1 hsub (by rw [List.length_map, List.length_map]; exact hl)
    intro x f
    constructor
    · rintro ⟨a, ha⟩
      exact h _ ha
    · rintro ⟨a, ha⟩
      obtain ⟨u, hu, e⟩ := List.mem_map.mp (hback x (List.mem_map.mpr ⟨_, ha, rfl⟩))
      obtain ⟨b, hb⟩ := h u hu
      have := uq n2 hb ha e
      have e2 : u.2.2 = f := congrArg (fun z : Str × Addr × (Str → Int) => z.2.2) this
      refine ⟨u.2.1, ?_⟩
      have : (x, u.2.1, f) = u := by rw [← e, ← e2]
      rw [this]
      exact hu
  · intro h
    refine ⟨?_, fun p hp => ?_⟩
    · have := len_same n1 n2 fun x => by
        constructor
        · intro hx
          obtain ⟨u, hu, e⟩ := List.mem_map.mp hx
          obtain ⟨a, ha⟩ := (h u.1 u.2.2).mp ⟨_, hu⟩
          exact List.mem_map.mpr ⟨_, ha, e⟩
        · intro hx
          obtain ⟨u, hu, e⟩ := List.mem_map.mp hx
          obtain ⟨a, ha⟩ := (h u.1 u.2.2).mpr ⟨_, hu⟩
          exact List.mem_map.mpr ⟨_, ha, e⟩
      rw [List.length_map, List.length_map] at this
      exact this
    · obtain ⟨u, hu, ep⟩ := ldK_mem hp
      subst ep
      obtain ⟨a, ha⟩ := (h u.1 u.2.2).mp ⟨_, hu⟩
      exact ⟨_, at_ n2 (u := (u.1, a, u.2.2)) ha, u, hu, (u.1, a, u.2.2), ha, rfl, rfl, rfl, rfl⟩
end
/-! ### the rules -/
section
variable {X : Cx}
/-- two tables of rows -/
def rEqLd : R2 := fun x y H Q => ∃ (D D' : Addr) (W W' : List Str) (q : Int) (L L' : Ld), x = .ref D ∧ y = .ref D' ∧ LeadsAt W q H D L ∧ LeadsAt W' q H D' L' ∧ (L.map (·.1)).Nodup ∧ (L'.map (·.1)).Nodup ∧
  ∀ b, (b = true ↔ ∀ x f, (∃ a, (x, a, f) ∈ L) ↔ ∃ a, (x, a, f) ∈ L') → Q (.bl b) H
theorem op_eqLd (hu : X.A.units + 64 < cLine) : OpR X (compareOp .Eq) rEqLd := by
  intro pins s σ H x y v u Q I rx ry h
  obtain ⟨D, D', W, W', q, L, L', rfl, rfl, h1, h2, n1, n2, k⟩ := h
  obtain rfl : v = Value.ref D := rx
  obtain rfl : u = Value.ref D' := ry
  obtain ⟨r, hr, er⟩ := leads_eq h1 h2 n1 n2
  exact dicts_run I (F := FD H) (by omega) (fun x y v u e h => fd_run I (by show X.A.units + 1 + 2 < cLine; omega) x y v u e h) h1.at_ h2.at_ (fun _ => hr) _ _ ⟨.bl _, H, I, rfl, k _ er⟩
/-- a dict and {} -/
def rEqD0 : R2 := fun x y H Q => ∃ (a b : Addr) (kvs : List (Key × V)), x = .ref a ∧ y = .ref b ∧ H a = some (.dK kvs) ∧ H b = some (.dK []) ∧ Q (.bl (decide (kvs = []))) H
theorem op_eqD0 (hu : X.A.units + 64 < cLine) : OpR X (compareOp .Eq) rEqD0 := by
  intro pins s σ H x y v u Q I rx ry h
  obtain ⟨a, b, kvs, rfl, rfl, ha, hb, k⟩ := h
  obtain rfl : v = Value.ref a := rx
  obtain rfl : u = Value.ref b := ry
  refine dicts_run I (F := FI) (r := true) (by omega) (fun x y v u e h => fi_run (by show X.A.units + 1 < cLine; omega) x y v u e h) ha hb (fun e => ?_) _ _ ⟨.bl _, H, I, rfl, ?_⟩
  · rw [List.length_eq_zero_iff.mp e]
    exact .nil
  · have : (kvs.length == ([] : List (Key × V)).length && true) = decide (kvs = []) := by
      cases kvs <;> simp
    rw [this]
    exact k
end
end K14
/-! D8 -/
set_option Elab.async false
set_option linter.all false
set_option maxRecDepth 100000
set_option maxHeartbeats 4000000
/-! D8: want_sums, want_name_list; what a space tells. -/
namespace K14
open PySem PySem.Spec PyProof.Rows L2
section
variable {P : Program} {w : World} {K : PySem.W.Frag} {mg : Str → Option Value} {base : Heap} {CS CP AM : Addr}
def spWantSums (CS : Addr) : Sp := fun vs H Q _ => ∃ (l : Addr) (ps : List Addr) (q : Int), vs = [.ref l, .int q] ∧ (H l = some (.lst (ps.map V.ref)) ∨ H l = some (.tup (ps.map V.ref))) ∧ (∀ p ∈ ps, ∃ dx fs, H p = some (.ins CS dx fs) ∧ fs.lookup ("own_modulus" : Str) = some (.int q)) ∧ ∀ H', Same H H' → Q .non H'
theorem ok_want_sums (T : Tx K mg CS CP AM) : GN P w K mg base 2 "want_sums" (spWantSums CS) := by
  refine Fd.gn T.f_want_sums sc_want_sums (fun vs H Q E h => ?_) (fun _ _ _ _ _ _ us hl => match us, hl with | [_, _], _ => rfl) (fun f cdv A outer s H vs Q E hr h => ?_)
  · obtain ⟨l, ps, q, rfl, _⟩ := h
    rfl
  · obtain ⟨l, ps, q, rfl, hl, hps, k⟩ := h
    refine ⟨_, (pss_cons (ps_if (pt_not (pt_val (pe_g (ok_is_list T) hr (by rfl) (pa_cons (pv 0) pa_nil)))) pss_never pss_nil)
      (pss_one (ps_for PassesOwn.never rfl (pi_enumA (by rfl) T.n_enumerate (pa_cons (pv 0) pa_nil)) (pg_tup rfl (pgs_cons (pg_name (i := 2) sc_want_sums.nd rfl (Or.inl rfl) (Or.inr rfl)) (pgs_cons (pg_name (i := 3) sc_want_sums.nd rfl (Or.inl rfl) (Or.inr rfl)) pgs_nil))) (pss_one (ps_if (pt_not (pt_val (pe_g (ok_is_sum T) hr (by rfl) (pa_cons (pv 3) (pa_cons (pv 1) pa_nil))))) pss_never pss_nil))))), ?_⟩
    refine ⟨_, rfl, l, ps.map V.ref, rfl, hl, fun H1 s1 => ?_⟩
    refine ⟨true, rfl, iteF ?_⟩
    have body : ∀ (n : Nat) (p : Addr), ps[n]? = some p → ∀ (H' : Hp), Same H H' → ∀ T', H' T' = none → ∀ (Q1 : Bool → Hp → Prop), Q1 true (upd H' T' (.tup [.int (n : Nat), .ref p])) → 
        ∃ dx fs, (upd H' T' (.tup [.int (n : Nat), .ref p])) p = some (.ins CS dx fs) ∧ fs.lookup ("own_modulus" : Str) = some (.int q) := fun n p hp H' sH T' hT Q1 _ => by
      obtain ⟨dx, fs, h1, h2⟩ := hps p (List.mem_of_getElem? hp)
      exact ⟨dx, fs, same_new hT _ _ (sH _ _ h1), h2⟩
    rcases hl with hl | hl
    · refine ⟨_, rfl, l, ps.map V.ref, rfl, .inl ⟨.inl (.inl (s1 _ _ hl)), ?_⟩⟩
      refine for_by ps.length (fun n σ H' => ∃ v2 v3, σ = [some (.ref l), some (.int q), v2, v3] ∧ Same H H') ⟨none, none, rfl, s1⟩ ?_ ?_
      · rintro n σ H2 hlt ⟨v2, v3, rfl, s2⟩
        obtain ⟨p, hp⟩ : ∃ p, ps[n]? = some p := ⟨_, List.getElem?_eq_getElem hlt⟩
        have hat : (ps.map V.ref)[n]? = some (V.ref p) := by
          rw [List.getElem?_map, hp]
          rfl
        have hq2 : SqL K H2 l (ps.map V.ref) := .inl (.inl (s2 _ _ hl))
        refine ⟨⟨_, _, hq2, hat⟩, ?_⟩
        rintro x H3 ⟨T', y, rfl, hT, rfl, hx⟩
        have ex := hx _ hq2
        rw [hat] at ex
        obtain rfl := Option.some.inj ex
        obtain ⟨dx, fs, g1, g2⟩ := body n p hp H2 s2 T' hT (fun _ _ => True) trivial
        refine ⟨T', _, rfl, .inl (.inl upd_same), rfl, _, _, rfl, _, _, rfl, rfl, ?_⟩
        refine ⟨_, rfl, _, rfl, _, q, rfl, .inl ⟨p, dx, fs, q, rfl, g1, g2, true, ?_, iteF ⟨_, _, rfl, same_add s2 hT⟩⟩⟩
        rw [decide_eq_true rfl]
      · rintro σ H2 ⟨v2, v3, rfl, s2⟩
        exact ⟨⟨_, .inl (.inl (s2 _ _ hl)), by rw [List.length_map]; exact Nat.le_refl _⟩, k _ s2⟩
    · refine ⟨_, rfl, l, ps.map V.ref, rfl, .inr ⟨.inl (.inl (s1 _ _ hl)), ?_⟩⟩
      refine for_by ps.length (fun n σ H' => ∃ v2 v3, σ = [some (.ref l), some (.int q), v2, v3] ∧ Same H H') ⟨none, none, rfl, s1⟩ ?_ ?_
      · rintro n σ H2 hlt ⟨v2, v3, rfl, s2⟩
        obtain ⟨p, hp⟩ : ∃ p, ps[n]? = some p := ⟨_, List.getElem?_eq_getElem hlt⟩
        have hat : (ps.map V.ref)[n]? = some (V.ref p) := by
          rw [List.getElem?_map, hp]
          rfl
        have hq2 : SqT K H2 l (ps.map V.ref) := .inl (.inl (s2 _ _ hl))
        refine ⟨⟨_, _, hq2, hat⟩, ?_⟩
        rintro x H3 ⟨T', y, rfl, hT, rfl, hx⟩
        have ex := hx _ hq2
        rw [hat] at ex
        obtain rfl := Option.some.inj ex
        obtain ⟨dx, fs, g1, g2⟩ := body n p hp H2 s2 T' hT (fun _ _ => True) trivial
        refine ⟨T', _, rfl, .inl (.inl upd_same), rfl, _, _, rfl, _, _, rfl, rfl, ?_⟩
        refine ⟨_, rfl, _, rfl, _, q, rfl, .inl ⟨p, dx, fs, q, rfl, g1, g2, true, ?_, iteF ⟨_, _, rfl, same_add s2 hT⟩⟩⟩
        rw [decide_eq_true rfl]
      · rintro σ H2 ⟨v2, v3, rfl, s2⟩
        exact ⟨⟨_, .inl (.inl (s2 _ _ hl)), by rw [List.length_map]; exact Nat.le_refl _⟩, k _ s2⟩
def spWantNames : Sp := fun vs H Q _ => ∃ (l : Addr) (ns : List Str), vs = [.ref l] ∧ H l = some (.lst (ns.map V.str)) ∧ (∀ x ∈ ns, NameOk x) ∧ ∀ H', Same H H' → Q .non H'
theorem ok_want_name_list (T : Tx K mg CS CP AM) : GN P w K mg base 2 "want_name_list" spWantNames := by
  refine Fd.gn T.f_want_name_list sc_want_name_list (fun vs H Q E h => ?_) (fun _ _ _ _ _ _ us hl => match us, hl with | [_], _ => rfl) (fun f cdv A outer s H vs Q E hr h => ?_)
  · obtain ⟨l, ns, rfl, _⟩ := h
    rfl
  · obtain ⟨l, ns, rfl, hl, hns, k⟩ := h
    refine ⟨_, (pss_cons (ps_if (pt_not (pt_val (pe_g (ok_is_list T) hr (by rfl) (pa_cons (pv 0) pa_nil)))) pss_never pss_nil)
      (pss_one (ps_for PassesOwn.never rfl (pi_enum (by rfl) T.n_enumerate (pa_cons (pv 0) pa_nil)) (pg_tup rfl (pgs_cons (pg_name (i := 1) sc_want_name_list.nd rfl (Or.inl rfl) (Or.inr rfl)) (pgs_cons (pg_name (i := 2) sc_want_name_list.nd rfl (Or.inl rfl) (Or.inr rfl)) pgs_nil))) (pss_one (ps_if (pt_not (pt_val (pe_g (ok_is_name T) hr (by rfl) (pa_cons (pv 2) pa_nil)))) pss_never pss_nil))))), ?_⟩
    refine ⟨_, rfl, l, ns.map V.str, rfl, .inl hl, fun H1 s1 => ?_⟩
    refine ⟨true, rfl, iteF ?_⟩
    refine ⟨_, rfl, l, ns.map V.str, rfl, .inl (.inl (s1 _ _ hl)), ?_⟩
    refine for_by ns.length (fun n σ H' => ∃ v2 v3, σ = [some (.ref l), v2, v3] ∧ Same H H') ⟨none, none, rfl, s1⟩ ?_ ?_
    · rintro n σ H2 hlt ⟨v2, v3, rfl, s2⟩
      obtain ⟨p, hp⟩ : ∃ p, ns[n]? = some p := ⟨_, List.getElem?_eq_getElem hlt⟩
      have hat : (ns.map V.str)[n]? = some (V.str p) := by
        rw [List.getElem?_map, hp]
        rfl
      have hq2 : SqL K H2 l (ns.map V.str) := .inl (.inl (s2 _ _ hl))
      refine ⟨⟨_, _, hq2, hat⟩, ?_⟩
      rintro x H3 ⟨T', y, rfl, hT, rfl, hx⟩
      have ex := hx _ hq2
      rw [hat] at ex
      obtain rfl := Option.some.inj ex
      refine ⟨T', _, rfl, .inl (.inl upd_same), rfl, _, _, rfl, _, _, rfl, rfl, ?_⟩
      exact ⟨_, rfl, p, rfl, hns p (List.mem_of_getElem? hp), fun H4 s4 => ⟨true, rfl, iteF ⟨_, _, rfl, (same_add s2 hT).trans s4⟩⟩⟩
    · rintro σ H2 ⟨v2, v3, rfl, s2⟩
      exact ⟨⟨_, .inl (.inl (s2 _ _ hl)), by rw [List.length_map]; exact Nat.le_refl _⟩, k _ s2⟩
end
end K14
/-! D9 -/
set_option Elab.async false
set_option linter.all false
set_option maxRecDepth 100000
set_option maxHeartbeats 4000000
/-! D9: what a space tells. -/
namespace K14
open PySem PySem.Spec PyProof.Rows L2
/-- a row with its constant, reduced by rows without -/
theorem noC_red {q : Int} (hq : 0 < q) {U : List Str} {B : Bs} (R : Rref q U B) (hU : ("" : Str) ∉ U) {g : Str → Int} (hg : Rg q g) (g0 : g "" = 0) {c : Int} (hc : 0 ≤ c ∧ c < q) : noC (red q (withC g c) B) = red q g B := by
  have hw : Rg q (withC g c) := fun x => by
    unfold withC
    split
    · exact hc
    · exact hg x
  have hn : Rg q (noC (red q (withC g c) B)) := fun x => by
    unfold noC
    split
    · exact ⟨Int.le_refl _, hq⟩
    · exact red_rg hq hw B x
  refine rg_ext hn (red_rg hq hg B) fun x => ?_
  obtain ⟨u, hu⟩ := red_dvd hq hg B x
  unfold noC
  by_cases z : x = ""
  · subst z
    rw [if_pos rfl]
    rw [g0, comb_off R g hU] at hu
    exact ⟨-u, by grind⟩
  · rw [if_neg z]
    obtain ⟨v, hv⟩ := red_dvd hq hw B x
    have e1 : withC g c x = g x := by
      unfold withC
      rw [if_neg z]
    have e2 : comb (withC g c) B x = comb g B x := by
      have hl : ∀ p ∈ B, p.1 ≠ "" := fun p hp e => hU (e ▸ R.lead_in hp)
      clear hu hv R hw hn
      induction B with
      | nil => rfl
      | cons p B ih =>
        rw [comb_cons, comb_cons, ih fun r hr => hl r (List.mem_cons_of_mem _ hr)]
        have : withC g c p.1 = g p.1 := by
          unfold withC
          rw [if_neg (hl p List.mem_cons_self)]
        rw [this]
    rw [e1, e2] at hv
    exact ⟨v - u, by grind⟩
theorem rowAt_mono {W W' : List Str} {q : Int} {H : Hp} {d : Addr} {f : Str → Int} (r : RowAt W q H d f) (h : ∀ x ∈ W, x ∈ W') : RowAt W' q H d f := by
  obtain ⟨kvs, e, R⟩ := r
  exact ⟨kvs, e, ⟨⟨R.nd, fun p hp => by
    obtain ⟨x, ex, hx⟩ := R.ks p hp
    exact ⟨x, ex, h x hx⟩, R.out⟩, R.nz, R.rg⟩⟩
theorem LeadsAt.mono {W W' : List Str} {q : Int} {H : Hp} {D : Addr} {L : Ld} (a : LeadsAt W q H D L) (h : ∀ x ∈ W, x ∈ W') : LeadsAt W' q H D L := ⟨a.at_, fun p hp => rowAt_mono (a.row p hp) h⟩
theorem SpAt.mono {CP : Addr} {H : Hp} {p : Addr} {W W' : List Str} {q : Int} {L : Ld} (a : SpAt CP H p W q L) (h : ∀ x ∈ W, x ∈ W') : SpAt CP H p W' q L := by
  obtain ⟨dx, D, e, l⟩ := a.ex
  exact ⟨⟨dx, D, e, l.mono h⟩, a.so⟩
section
variable {P : Program} {w : World} {K : PySem.W.Frag} {mg : Str → Option Value} {base : Heap} {CS CP AM : Addr}
/-- a space over the names U -/
structure Sp1 (CP : Addr) (H : Hp) (p : Addr) (U : List Str) (q : Int) (L : Ld) : Prop where
  at_ : SpAt CP H p (WU U) q L
  rr : Rref q U (bs L)
  uo : Uok U
  qo : Qok q
theorem Sp1.same {H H' : Hp} {p : Addr} {U : List Str} {q : Int} {L : Ld} (a : Sp1 CP H p U q L) (s : Same H H') : Sp1 CP H' p U q L := ⟨a.at_.same s, a.rr, a.uo, a.qo⟩
theorem Sp1.nd {H : Hp} {p : Addr} {U : List Str} {q : Int} {L : Ld} (a : Sp1 CP H p U q L) : (L.map (·.1)).Nodup := slt_nodup a.at_.so
theorem Sp1.len {H : Hp} {p : Addr} {U : List Str} {q : Int} {L : Ld} (a : Sp1 CP H p U q L) : L.length ≤ U.length := by
  have h1 := len_sub (l := L.map (·.1)) (m := U) a.nd fun x hx => by
    obtain ⟨p, hp, e⟩ := List.mem_map.mp hx
    rw [← e]
    exact a.rr.lead_in (p := (p.1, p.2.2)) (List.mem_map.mpr ⟨p, hp, rfl⟩)
  rw [List.length_map] at h1
  exact h1
theorem Uok.nm0 {U : List Str} (u : Uok U) : ("" : Str) ∉ U := fun h => (u.nm _ h).ne rfl
def spSpRows (CP : Addr) : Sp := fun vs H Q _ => ∃ (p : Addr) (W : List Str) (q : Int) (L : Ld), vs = [.ref p] ∧ SpAt CP H p W q L ∧ ∀ H' l, Same H H' → H l = none → H' l = some (.lst (L.map fun u => V.ref u.2.1)) → Q (.ref l) H'
theorem ok_Spanned_rows (T : Tx K mg CS CP AM) : GM P w K mg base 1 CP "rows" (spSpRows CP) := by
  refine Md.gm T.m_Spanned_rows sc_Spanned_rows (fun vs H Q E h => ?_) (fun _ _ _ _ _ _ us hl => match us, hl with | [_], _ => rfl) (fun f cdv A outer s H vs Q E hr h => ?_)
  · obtain ⟨p, W, q, L, rfl, _⟩ := h
    rfl
  · obtain ⟨p, W, q, L, rfl, S, k⟩ := h
    obtain ⟨dx, D, hp, hL⟩ := S.ex
    refine ⟨_, (pss_one (ps_ret (pe_listValues (pe_fld (pv 0) rfl) (by rfl) T.n_list bo_list))), ?_⟩
    refine ⟨_, rfl, p, CP, dx, _, _, rfl, hp, T.c_Space.cl, T.a_Space_own_rows, spF_r q D, D, ldK L, rfl, hL.at_, fun l hl => ?_⟩
    refine k _ l (same_new hl) hl ?_
    rw [upd_same]
    unfold ldK
    rw [List.map_map]
    rfl
def spSumsOf (CS CP : Addr) : Sp := fun vs H Q _ => ∃ (p l dx D : Addr) (q : Int) (U : List Str) (rs : List (Addr × (Str → Int))), vs = [.ref p, .ref l] ∧ H p = some (.ins CP dx (spF q D)) ∧ Qok q ∧ Uok U ∧ H l = some (.lst (rs.map fun r => V.ref r.1)) ∧ rs.length ≤ 1000 ∧
  (∀ r ∈ rs, RowAt (WU U) q H r.1 r.2 ∧ ∀ x, r.2 x ≠ 0 → x ∈ U) ∧
  ∀ H' m ps, Same H H' → H m = none → H' m = some (.lst (ps.map V.ref)) → Paired (fun a (r : Addr × (Str → Int)) => SumAt CS H' a U q r.2 0) ps rs → Q (.ref m) H'
theorem noC_same {U : List Str} (hU : Uok U) {f : Str → Int} (h : ∀ x, f x ≠ 0 → x ∈ U) : noC f = f ∧ f "" = 0 := by
  have h0 : f "" = 0 := Decidable.byContradiction fun z => hU.nm0 (h _ z)
  refine ⟨funext fun x => ?_, h0⟩
  unfold noC
  by_cases z : x = ""
  · rw [if_pos z, z, h0]
  · rw [if_neg z]
theorem paired_mono {α β : Type} {F G : α → β → Prop} {l : List α} {m : List β} (h : Paired F l m) (k : ∀ a b, F a b → G a b) : Paired G l m := by
  induction h with
  | nil => exact .nil
  | cons a _ ih => exact .cons (k _ _ a) ih
theorem paired_snoc {α β : Type} {F : α → β → Prop} {l : List α} {m : List β} (h : Paired F l m) {a : α} {b : β} (k : F a b) : Paired F (l ++ [a]) (m ++ [b]) := by
  induction h with
  | nil => exact .cons k .nil
  | cons a _ ih => exact .cons a ih
theorem ok_Spanned_sums_of (T : Tx K mg CS CP AM) : GM P w K mg base 8 CP "sums_of" (spSumsOf CS CP) := by
  refine Md.gm T.m_Spanned_sums_of sc_Spanned_sums_of (fun vs H Q E h => ?_) (fun _ _ _ _ _ _ us hl => match us, hl with | [_, _], _ => rfl) (fun f cdv A outer s H vs Q E hr h => ?_)
  · obtain ⟨p, l, dx, D, q, U, rs, rfl, _⟩ := h
    rfl
  · obtain ⟨p, l, dx, D, q, U, rs, rfl, hp, hq, hU, hl, hlen, hrs, k⟩ := h
    have hW : (WU U).length ≤ 1000 := by
      have := hU.ln
      rw [List.length_cons]
      omega
    refine ⟨_, (pss_one (ps_ret (pe_lc (own := [("row", 2)]) rfl sc_Spanned_sums_of.nd (pi_list (pv 1)) (blkOk_by (N := N_Spanned_sums_of) (sc := defScope st_Spanned_sums_of) (by decide +kernel)) (fun _ _ _ _ _ => (pg_name (i := 2) sc_Spanned_sums_of.nd rfl (Or.inl rfl) (Or.inr rfl))) (fun _ _ _ _ _ => pts_nil) (fun _ _ _ _ _ => (pe_g (ok_sum_of T) hr (by rfl) (pa_cons (pv 2) (pa_cons (pe_fld' (K := K) (pv 0)) pa_nil))))))), ?_⟩
    refine ⟨_, rfl, l, rfl, ⟨_, .inl (.inl hl)⟩, fun E hE => ?_⟩
    refine lc_by rs.length (fun n H' => ∃ ps, Same H H' ∧ H' E = some (.lst (ps.map V.ref)) ∧ Paired (fun a (r : Addr × (Str → Int)) => SumAt CS H' a U q r.2 0) ps (rs.take n)) ⟨[], same_new hE, by rw [upd_same]; rfl, by rw [List.take_zero]; exact .nil⟩ ?_ ?_
    · rintro n H1 hlt ⟨ps, s1, e1, hps⟩
      obtain ⟨r, hr0⟩ : ∃ r, rs[n]? = some r := ⟨_, List.getElem?_eq_getElem hlt⟩
      obtain ⟨Rr, hsr⟩ := hrs r (List.mem_of_getElem? hr0)
      have hat : (rs.map fun r => V.ref r.1)[n]? = some (V.ref r.1) := by
        rw [List.getElem?_map, hr0]
        rfl
      have hlH1 := s1 _ _ hl
      refine ⟨⟨_, _, .inl (.inl hlH1), hat⟩, ?_⟩
      rintro x H2 ⟨e2, hx⟩
      have e2 := e2.symm
      subst e2
      have ex := hx _ (.inl (.inl hlH1))
      rw [hat] at ex
      obtain rfl := Option.some.inj ex
      obtain ⟨n1, n2⟩ := noC_same hU hsr
      refine ⟨rfl, _, rfl, _, rfl, p, CP, dx, _, _, rfl, s1 _ _ hp, T.c_Space.cl, T.a_Space_own_modulus, spF_m q D, ?_⟩
      refine ⟨r.1, WU U, U, q, r.2, rfl, hq, Rr.same s1, hW, hU, fun x hx => .inr (hsr x hx), fun H3 a s3 ha S => ?_⟩
      rw [n1, n2] at S
      have hlp := Paired.length hps
      rw [List.length_take] at hlp
      refine ⟨ps.map V.ref, s3 _ _ e1, ?_, ps ++ [a], same_mut (s1.trans s3) hE, ?_, ?_⟩
      · rw [List.length_map]
        exact small1000 (by omega)
      · rw [upd_same, List.map_append]
        rfl
      · rw [take_snoc hr0]
        have nE : ∀ {b : Addr} {o : HO}, H3 b = some o → b ≠ E → (upd H3 E (.lst (ps.map V.ref ++ [V.ref a]))) b = some o := fun h n => by
          rw [upd_ne n]
          exact h
        have keepE : ∀ {b : Addr} {r : Addr × (Str → Int)}, SumAt CS H3 b U q r.2 0 → SumAt CS (upd H3 E (.lst (ps.map V.ref ++ [V.ref a]))) b U q r.2 0 := fun {b r} S => by
          obtain ⟨dx2, d2, g1, g2⟩ := S.ex
          have hE3 : H3 E = some (.lst (ps.map V.ref)) := s3 _ _ e1
          refine ⟨⟨dx2, d2, nE g1 fun z => ?_, nE g2 fun z => ?_⟩, S.rg, S.sup, S.cr⟩
          · rw [z, hE3] at g1
            cases g1
          · rw [z, hE3] at g2
            cases g2
        exact paired_snoc (paired_mono hps fun b r h => keepE (h.same s3)) (keepE S)
    · rintro H1 ⟨ps, s1, e1, hps⟩
      refine ⟨⟨_, .inl (.inl (s1 _ _ hl)), by rw [List.length_map]; exact Nat.le_refl _⟩, k H1 E ps s1 hE e1 ?_⟩
      rw [List.take_length] at hps
      exact hps
end
end K14
/-! D10 -/
set_option Elab.async false
set_option linter.all false
set_option maxRecDepth 100000
set_option maxHeartbeats 4000000
/-! D10: what a space tells, further. -/
namespace K14
open PySem PySem.Spec PyProof.Rows L2
def usedN (U : List Str) (L : Ld) : List Str := U.filter fun x => L.any fun u => decide (u.2.2 x ≠ 0)
section
variable {P : Program} {w : World} {K : PySem.W.Frag} {mg : Str → Option Value} {base : Heap} {CS CP AM : Addr}
def spNamesInRows (CP : Addr) : Sp := fun vs H Q _ => ∃ (p : Addr) (U : List Str) (q : Int) (L : Ld), vs = [.ref p] ∧ Sp1 CP H p U q L ∧ ∀ H' l, Same H H' → H l = none → H' l = some (.lst ((usedN U L).map V.str)) → Q (.ref l) H'
theorem ok_Spanned_names_in_rows (T : Tx K mg CS CP AM) : GM P w K mg base 2 CP "names_in_rows" (spNamesInRows CP) := by
  refine Md.gm T.m_Spanned_names_in_rows sc_Spanned_names_in_rows (fun vs H Q E h => ?_) (fun _ _ _ _ _ _ us hl => match us, hl with | [_], _ => rfl) (fun f cdv A outer s H vs Q E hr h => ?_)
  · obtain ⟨p, U, q, L, rfl, _⟩ := h
    rfl
  · obtain ⟨p, U, q, L, rfl, S, k⟩ := h
    obtain ⟨dx, D, hp, hL⟩ := S.at_.ex
    have hLU := S.len
    have hln := S.uo.ln
    have hW : (WU U).length ≤ 1000 := by
      rw [List.length_cons]
      omega
    refine ⟨_, (pss_cons (ps_set (i := 1) sc_Spanned_names_in_rows.nd rfl (Or.inl rfl) (pe_lst pa_nil))
      (pss_cons (ps_lock (ps_for PassesOwn.never rfl (pi_values (pe_fld (pv 0) rfl)) (pg_name (i := 2) sc_Spanned_names_in_rows.nd rfl (Or.inl rfl) (Or.inr rfl)) (pss_one (ps_expr (pe_bm PySem.F.plainAttrs_list PySem.F.slot_list_extend PySem.F.type_list_extend mt_extendD (pv 1) (pa_cons (pe_g (ok_without_constant T) hr (by rfl) (pa_cons (pv 2) pa_nil)) pa_nil))))))
      (pss_one (ps_ret (pe_sortedSet (pv 1) (by rfl) T.n_sorted (by rfl) T.n_set))))), ?_⟩
    refine ⟨Nat.zero_le _, fun F hF => ?_⟩
    have nDF : D ≠ F := ne_of_none hL.at_ hF
    have npF : p ≠ F := ne_of_none hp hF
    refine ⟨D, .dK (ldK L), by rw [upd_ne nDF]; exact hL.at_, trivial, fun od => ?_⟩
    have npD : p ≠ D := fun e => by
      rw [e, hL.at_] at hp
      cases hp
    refine ⟨_, rfl, p, CP, dx, _, _, rfl, by rw [upd_ne npD, upd_ne npF]; exact hp, T.c_Space.cl, T.a_Space_own_rows, spF_r q D, D, od, ldK L, rfl, upd_same, ?_⟩
    refine for_by L.length (fun n σ H' => ∃ v2 fs, σ = [some (.ref p), some (.ref F), v2] ∧ SameB F (upd (upd H F (.lst [])) D (.frz od (.dK (ldK L)))) H' ∧ H' F = some (.lst (fs.map V.str)) ∧ fs.length ≤ 7 * n ∧ ∀ x, x ∈ fs ↔ ∃ u ∈ L.take n, u.2.2 x ≠ 0) ⟨none, [], rfl, SameB.refl _, by rw [upd_ne nDF.symm]; exact upd_same, Nat.zero_le _, fun x => ⟨(fun h => nomatch h), fun ⟨u, hu, _⟩ => by
      rw [List.take_zero] at hu
      cases hu⟩⟩ ?_ ?_
    · rintro n σ H1 hlt ⟨v2, fs, rfl, s1, e1, hl1, m1⟩
      obtain ⟨u, hu⟩ : ∃ u, L[n]? = some u := ⟨_, List.getElem?_eq_getElem hlt⟩
      have huL := List.mem_of_getElem? hu
      refine ⟨⟨s1 _ _ nDF upd_same, by rw [ldK_len]; exact hlt⟩, ?_⟩
      rintro x H2 ⟨e2, key, hkv⟩
      have e2 := e2.symm
      subst e2
      rw [ldK_at hu] at hkv
      obtain ⟨rfl, rfl⟩ : (Sum.inr u.1 : Key) = key ∧ V.ref u.2.1 = x := ⟨congrArg (fun z : Key × V => z.1) (Option.some.inj hkv), congrArg (fun z : Key × V => z.2) (Option.some.inj hkv)⟩
      have Ru := hL.row u huL
      have nuD : u.2.1 ≠ D := hL.ne Ru (List.ne_nil_of_mem huL)
      have nuF : u.2.1 ≠ F := by
        obtain ⟨kvs, e, _⟩ := Ru
        exact ne_of_none e hF
      have Ru1 : RowAt (WU U) q H1 u.2.1 u.2.2 := ((Ru.upd nuF).upd nuD).keep s1 nuF
      have hmem : u ∈ L := huL
      have hsup : ∀ x, u.2.2 x ≠ 0 → x ∈ U := fun x hx => S.rr.sup (u.1, u.2.2) (List.mem_map.mpr ⟨u, huL, rfl⟩) x hx
      obtain ⟨n1, n2⟩ := noC_same S.uo hsup
      refine ⟨_, rfl, .inl ⟨rfl, _, .inl (.inl e1)⟩, ?_⟩
      refine ⟨_, rfl, u.2.1, WU U, q, u.2.2, rfl, Ru1, hW, fun H3 d3 s3 hd3 R3 => ?_⟩
      rw [n1] at R3
      obtain ⟨k3, hk3, Rk3⟩ := R3
      have hn3 := Rk3.toTb.names
      have l3 : k3.length ≤ 7 := by
        have hnd := tbK_nd hn3 Rk3.nd
        have := len_sub (l := tbK k3) (m := U) hnd fun x hx => hsup x ((rw_keys Rk3).mp hx)
        rw [tbK_len hn3] at this
        omega
      have hlt7 : n < 7 := by omega
      refine ⟨F, d3, fs.map V.str, k3, rfl, rfl, s3 _ _ e1, hk3, ?_, ?_⟩
      · rw [List.length_map]
        exact small1000 (by omega)
      · refine ⟨_, fs ++ tbK k3, rfl, fun z o nz e => ?_, ?_, ?_, fun x => ?_⟩
        · rw [upd_ne nz]
          exact s3 _ _ (s1 _ _ nz e)
        · rw [upd_same, List.map_append]
          have : (k3.map fun kv => kV kv.1) = (tbK k3).map V.str := by
            have := congrArg (List.map kV) hn3
            rw [List.map_map, List.map_map] at this
            exact this
          rw [this]
        · rw [List.length_append, tbK_len hn3]
          omega
        · rw [List.mem_append, m1 x, rw_keys Rk3, take_snoc hu]
          constructor
          · rintro (⟨v, hv, h⟩ | h)
            · exact ⟨v, List.mem_append.mpr (.inl hv), h⟩
            · exact ⟨u, List.mem_append.mpr (.inr (List.mem_singleton.mpr rfl)), h⟩
          · rintro ⟨v, hv, h⟩
            rcases List.mem_append.mp hv with hv | hv
            · exact .inl ⟨v, hv, h⟩
            · rw [List.mem_singleton.mp hv] at h
              exact .inr h
    · rintro σ H1 ⟨v2, fs, rfl, s1, e1, hl1, m1⟩
      refine ⟨⟨s1 _ _ nDF upd_same, by rw [ldK_len]; exact Nat.le_refl _⟩, s1 _ _ nDF upd_same, ?_⟩
      rw [List.take_length] at m1
      have e1' : (upd H1 D (.dK (ldK L))) F = some (.lst (fs.map V.str)) := by
        rw [upd_ne nDF.symm]
        exact e1
      have sH : Same H (upd H1 D (.dK (ldK L))) := fun z o e => by
        have nz : z ≠ F := ne_of_none e hF
        by_cases zb : z = D
        · subst zb
          rw [upd_same, ← hL.at_]
          exact e
        · rw [upd_ne zb]
          refine s1 z o nz ?_
          rw [upd_ne zb, upd_ne nz]
          exact e
      have hlen : fs.length ≤ 49 := by
        have : 7 * L.length ≤ 7 * 7 := Nat.mul_le_mul_left 7 (by omega)
        omega
      refine ⟨_, rfl, F, fs, rfl, .inl (.inl e1'), by omega, fun ys l hso hnd hm hl => ?_⟩
      have sl : Same H (upd (upd H1 D (.dK (ldK L))) l (.lst (ys.map V.str))) := same_add sH hl
      refine k _ l sl (sH.free hl) ?_
      rw [upd_same]
      have : ys = usedN U L := by
        refine slt_unique (pair_slt (sorted_pair ys hso) hnd) (S.uo.so.filter _) fun x => ?_
        rw [hm x, m1 x]
        unfold usedN
        rw [List.mem_filter, List.any_eq_true]
        constructor
        · rintro ⟨u, hu, h⟩
          exact ⟨S.rr.sup (u.1, u.2.2) (List.mem_map.mpr ⟨u, hu, rfl⟩) x h, u, hu, decide_eq_true h⟩
        · rintro ⟨_, u, hu, h⟩
          exact ⟨u, hu, of_decide_eq_true h⟩
      rw [this]
def spRowLeft (CS CP : Addr) : Sp := fun vs H Q _ => ∃ (p t : Addr) (W U : List Str) (q : Int) (g : Str → Int) (c : Int) (L : Ld), vs = [.ref p, .ref t] ∧ SpAt CP H p W q L ∧ SumAt CS H t U q g c ∧ U.Nodup ∧ ("" : Str) ∉ U ∧ (∀ x ∈ U, x ∈ W) ∧ ("" : Str) ∈ W ∧ U.length ≤ 1000 ∧ W.length ≤ 1000 ∧ 0 < q ∧ q < 100 ∧
  ∀ H' d, Same H H' → H d = none → RowAt W q H' d (red q (withC g c) (bs L)) → Q (.ref d) H'
theorem ok_Spanned_row_left (T : Tx K mg CS CP AM) : GM P w K mg base 3 CP "row_left" (spRowLeft CS CP) := by
  refine Md.gm T.m_Spanned_row_left sc_Spanned_row_left (fun vs H Q E h => ?_) (fun _ _ _ _ _ _ us hl => match us, hl with | [_, _], _ => rfl) (fun f cdv A outer s H vs Q E hr h => ?_)
  · obtain ⟨p, t, W, U, q, g, c, L, rfl, _⟩ := h
    rfl
  · obtain ⟨p, t, W, U, q, g, c, L, rfl, S, R, nd, nU, sub, hW0, hU, hW, hq, hq2, k⟩ := h
    obtain ⟨dx, D, hp, hL⟩ := S.ex
    refine ⟨_, (pss_one (ps_ret (pe_g (ok_row_reduced T) hr (by rfl) (pa_cons (pe_g (ok_row_of T) hr (by rfl) (pa_cons (pv 1) pa_nil)) (pa_cons (pe_fld (pv 0) rfl) (pa_cons (pe_fld (pv 0) rfl) pa_nil)))))), ?_⟩
    refine ⟨_, rfl, t, W, U, q, g, c, rfl, R, nd, nU, sub, hW0, hU, fun H1 a s1 ha Ra => ?_⟩
    have nDa : a ≠ D := fun e => by
      rw [e, hL.at_] at ha
      cases ha
    refine ⟨_, rfl, p, CP, dx, _, _, rfl, s1 _ _ hp, T.c_Space.cl, T.a_Space_own_rows, spF_r q D, _, rfl, p, CP, dx, _, _, rfl, s1 _ _ hp, T.c_Space.cl, T.a_Space_own_modulus, spF_m q D, ?_⟩
    refine ⟨a, D, q, W, _, L, rfl, Ra, hL.same s1, nDa, slt_nodup S.so, hW, hq, hq2, fun H2 d s2 hd Rd => ?_⟩
    refine k H2 d (s1.trans s2) ?_ Rd
    rcases hd with rfl | hd
    · exact ha
    · exact s1.free hd
def spSpaceM (CP : Addr) : Sp := fun vs H Q _ => ∃ (a dx d : Addr) (q : Int), vs = [.ref a] ∧ H a = some (.ins CP dx (spF q d)) ∧ Q (.int q) H
theorem ok_Space_modulus (T : Tx K mg CS CP AM) : GP P w K mg base 1 CP "modulus" (spSpaceM CP) := by
  refine Pd.gp T.p_Space_modulus sc_Space_modulus (fun vs H Q E h => ?_) (fun _ _ _ _ _ _ us hl => match us, hl with | [_], _ => rfl) (fun f cdv A outer s H vs Q E hr h => ?_)
  · obtain ⟨a, dx, d, q, rfl, _⟩ := h
    rfl
  · obtain ⟨a, dx, d, q, rfl, ha, k⟩ := h
    refine ⟨_, (pss_one (ps_ret (pe_fld (pv 0) rfl))), ?_⟩
    exact ⟨_, rfl, a, CP, dx, _, _, rfl, ha, T.c_Space.cl, T.a_Space_own_modulus, spF_m q d, k⟩
def spSpaceD (CP : Addr) : Sp := fun vs H Q _ => ∃ (a : Addr) (W : List Str) (q : Int) (L : Ld), vs = [.ref a] ∧ SpAt CP H a W q L ∧ Q (.int (L.length : Nat)) H
theorem ok_Space_dimension (T : Tx K mg CS CP AM) : GP P w K mg base 1 CP "dimension" (spSpaceD CP) := by
  refine Pd.gp T.p_Space_dimension sc_Space_dimension (fun vs H Q E h => ?_) (fun _ _ _ _ _ _ us hl => match us, hl with | [_], _ => rfl) (fun f cdv A outer s H vs Q E hr h => ?_)
  · obtain ⟨a, W, q, L, rfl, _⟩ := h
    rfl
  · obtain ⟨a, W, q, L, rfl, S, k⟩ := h
    obtain ⟨dx, D, hp, hL⟩ := S.ex
    refine ⟨_, (pss_one (ps_ret (pe_callB call_lenD (by rfl) T.n_len bo_len (pa_cons (pe_fld (pv 0) rfl) pa_nil)))), ?_⟩
    refine ⟨_, rfl, a, CP, dx, _, _, rfl, hp, T.c_Space.cl, T.a_Space_own_rows, spF_r q D, D, ldK L, rfl, hL.at_, ?_⟩
    rw [ldK_len]
    exact k
def spBasis (CS CP : Addr) : Sp := fun vs H Q _ => ∃ (p : Addr) (U : List Str) (q : Int) (L : Ld), vs = [.ref p] ∧ Sp1 CP H p U q L ∧
  ∀ H' m ps, Same H H' → H m = none → H' m = some (.lst (ps.map V.ref)) → Paired (fun a (r : Str × (Str → Int)) => SumAt CS H' a U q r.2 0) ps (bs L) → Q (.ref m) H'
theorem ok_Space_basis (T : Tx K mg CS CP AM) : GM P w K mg base 9 CP "basis" (spBasis CS CP) := by
  refine Md.gm T.m_Space_basis sc_Space_basis (fun vs H Q E h => ?_) (fun _ _ _ _ _ _ us hl => match us, hl with | [_], _ => rfl) (fun f cdv A outer s H vs Q E hr h => ?_)
  · obtain ⟨p, U, q, L, rfl, _⟩ := h
    rfl
  · obtain ⟨p, U, q, L, rfl, S, k⟩ := h
    obtain ⟨dx, D, hp, hL⟩ := S.at_.ex
    have hlen := S.len
    have hln := S.uo.ln
    refine ⟨_, (pss_one (ps_ret (pe_gm (pv 0) T.c_Space.cl (ok_Spanned_sums_of T) hr (pa_cons (pe_gm0 (pv 0) T.c_Space.cl (ok_Spanned_rows T) hr) pa_nil)))), ?_⟩
    refine ⟨_, rfl, p, dx, _, rfl, hp, spF_no q D (by decide +kernel) (by decide +kernel), ?_⟩
    refine ⟨_, rfl, p, dx, _, rfl, hp, spF_no q D (by decide +kernel) (by decide +kernel), p, WU U, q, L, rfl, S.at_, fun H1 l s1 hl1 hl => ?_⟩
    refine ⟨p, l, dx, D, q, U, L.map fun u => (u.2.1, u.2.2), rfl, s1 _ _ hp, S.qo, S.uo, ?_, by rw [List.length_map]; omega, fun r hr => ?_, fun H2 m ps s2 hm hm2 hps => ?_⟩
    · rw [hl, List.map_map]
      rfl
    · obtain ⟨u, hu, e⟩ := List.mem_map.mp hr
      subst e
      exact ⟨(hL.row u hu).same s1, fun x hx => S.rr.sup (u.1, u.2.2) (List.mem_map.mpr ⟨u, hu, rfl⟩) x hx⟩
    · refine k H2 m ps (s1.trans s2) (s1.free hm) hm2 ?_
      clear k hm2
      have : ∀ {ps : List Addr} {M : Ld}, Paired (fun a (r : Addr × (Str → Int)) => SumAt CS H2 a U q r.2 0) ps (M.map fun u => (u.2.1, u.2.2)) → Paired (fun a (r : Str × (Str → Int)) => SumAt CS H2 a U q r.2 0) ps (bs M) := by
        intro ps M
        induction M generalizing ps with
        | nil =>
          intro h
          cases h
          exact .nil
        | cons u M ih =>
          intro h
          cases h with
          | cons a b => exact .cons a (ih b)
      exact this hps
def spSpaceNames (CP : Addr) : Sp := spNamesInRows CP
theorem ok_Space_names (T : Tx K mg CS CP AM) : GM P w K mg base 3 CP "names" (spSpaceNames CP) := by
  refine Md.gm T.m_Space_names sc_Space_names (fun vs H Q E h => ?_) (fun _ _ _ _ _ _ us hl => match us, hl with | [_], _ => rfl) (fun f cdv A outer s H vs Q E hr h => ?_)
  · obtain ⟨p, U, q, L, rfl, _⟩ := h
    rfl
  · obtain ⟨p, U, q, L, rfl, S, k⟩ := h
    obtain ⟨dx, D, hp, hL⟩ := S.at_.ex
    refine ⟨_, (pss_one (ps_ret (pe_gm0 (pv 0) T.c_Space.cl (ok_Spanned_names_in_rows T) hr))), ?_⟩
    exact ⟨_, rfl, p, dx, _, rfl, hp, spF_no q D (by decide +kernel) (by decide +kernel), p, U, q, L, rfl, S, k⟩
end
end K14
/-! D11 -/
set_option Elab.async false
set_option linter.all false
set_option maxRecDepth 100000
set_option maxHeartbeats 4000000
/-! D11: reduced, in, == of spaces. -/
namespace K14
open PySem PySem.Spec PyProof.Rows L2
section
variable {P : Program} {w : World} {K : PySem.W.Frag} {mg : Str → Option Value} {base : Heap} {CS CP AM : Addr}
def spReduced (CS CP : Addr) : Sp := fun vs H Q _ => ∃ (p t : Addr) (U : List Str) (q : Int) (g : Str → Int) (c : Int) (L : Ld), vs = [.ref p, .ref t] ∧ Sp1 CP H p U q L ∧ SumAt CS H t U q g c ∧
  ∀ H' a, Same H H' → H a = none → SumAt CS H' a U q (red q g (bs L)) 0 → Q (.ref a) H'
theorem ok_Space_reduced (T : Tx K mg CS CP AM) : GM P w K mg base 8 CP "reduced" (spReduced CS CP) := by
  refine Md.gm T.m_Space_reduced sc_Space_reduced (fun vs H Q E h => ?_) (fun _ _ _ _ _ _ us hl => match us, hl with | [_, _], _ => rfl) (fun f cdv A outer s H vs Q E hr h => ?_)
  · obtain ⟨p, t, U, q, g, c, L, rfl, _⟩ := h
    rfl
  · obtain ⟨p, t, U, q, g, c, L, rfl, S, R, k⟩ := h
    obtain ⟨dx, D, hp, hL⟩ := S.at_.ex
    obtain ⟨dx2, d2, ht, hd2⟩ := R.ex
    have hln := S.uo.ln
    have hq := S.qo.pos
    have hW : (WU U).length ≤ 1000 := by
      rw [List.length_cons]
      omega
    have nU := S.uo.nm0
    refine ⟨_, (pss_cons (ps_expr (pe_g (ok_want_sum T) hr (by rfl) (pa_cons (pv 1) (pa_cons (pe_fld (pv 0) rfl) pa_nil))))
      (pss_one (ps_ret (pe_g (ok_sum_of T) hr (by rfl) (pa_cons (pe_g (ok_without_constant T) hr (by rfl) (pa_cons (pe_gm (pv 0) T.c_Space.cl (ok_Spanned_row_left T) hr (pa_cons (pv 1) pa_nil)) pa_nil)) (pa_cons (pe_fld (pv 0) rfl) pa_nil)))))), ?_⟩
    refine ⟨_, rfl, _, rfl, p, CP, dx, _, _, rfl, hp, T.c_Space.cl, T.a_Space_own_modulus, spF_m q D, t, dx2, _, q, rfl, ht, sumF_m q d2 c, ?_⟩
    refine ⟨_, rfl, p, dx, _, rfl, hp, spF_no q D (by decide +kernel) (by decide +kernel), _, rfl, ?_⟩
    refine ⟨p, t, WU U, U, q, g, c, L, rfl, S.at_, R, S.uo.nd, nU, fun x hx => List.mem_cons_of_mem _ hx, List.mem_cons_self, by omega, hW, by omega, by omega, fun H1 d s1 hd Rd => ?_⟩
    refine ⟨d, WU U, q, _, rfl, Rd, hW, fun H2 d3 s2 hd3 R3 => ?_⟩
    have g0 : g "" = 0 := R.sup _ nU
    rw [noC_red (by omega) S.rr nU R.rg g0 R.cr] at R3
    have s12 := s1.trans s2
    have hsup : ∀ x, red q g (bs L) x ≠ 0 → x ∈ U := fun x hx => S.rr.red_sup (by omega) R.rg (fun y hy => Decidable.byContradiction fun n => hy (R.sup y n)) hx
    refine ⟨_, rfl, p, CP, dx, _, _, rfl, s12 _ _ hp, T.c_Space.cl, T.a_Space_own_modulus, spF_m q D, ?_⟩
    refine ⟨d3, WU U, U, q, _, rfl, S.qo, R3, hW, S.uo, fun x hx => .inr (hsup x hx), fun H3 a s3 ha Sa => ?_⟩
    obtain ⟨n1, n2⟩ := noC_same S.uo hsup
    rw [n1, n2] at Sa
    exact k H3 a (s12.trans s3) (s12.free ha) Sa
def spContains (K : PySem.W.Frag) (CS CP : Addr) : Sp := fun vs H Q _ => ∃ (p : Addr) (x : V) (q : Int) (dx D : Addr), vs = [.ref p, x] ∧ H p = some (.ins CP dx (spF q D)) ∧
  ((∃ (t : Addr) (W U : List Str) (g : Str → Int) (c : Int) (L : Ld), x = .ref t ∧ SpAt CP H p W q L ∧ SumAt CS H t U q g c ∧ U.Nodup ∧ ("" : Str) ∉ U ∧ (∀ x ∈ U, x ∈ W) ∧ ("" : Str) ∈ W ∧ U.length ≤ 1000 ∧ W.length ≤ 1000 ∧ 0 < q ∧ q < 100 ∧
      ∀ H' b, Same H H' → (b = true ↔ ∀ x, noC (red q (withC g c) (bs L)) x = 0) → Q (.bl b) H') ∨
    (∃ (a dx2 : Addr) (fs : List (Str × V)) (k : Int), x = .ref a ∧ H a = some (.ins CS dx2 fs) ∧ fs.lookup ("own_modulus" : Str) = some (.int k) ∧ k ≠ q ∧ Q (.bl false) H) ∨
    ∃ t, TyX K H x t ∧ PySem.W.kitOne K t (.ref CS) = some false ∧ Q (.bl false) H)
theorem ok_Space_contains (T : Tx K mg CS CP AM) : GM P w K mg base 4 CP "__contains__" (spContains K CS CP) := by
  refine Md.gm T.m_Space_contains sc_Space_contains (fun vs H Q E h => ?_) (fun _ _ _ _ _ _ us hl => match us, hl with | [_, _], _ => rfl) (fun f cdv A outer s H vs Q E hr h => ?_)
  · obtain ⟨p, x, q, dx, D, rfl, _⟩ := h
    rfl
  · obtain ⟨p, x, q, dx, D, rfl, hp, h⟩ := h
    have hu1 := hr.units
    refine ⟨_, (pss_one (ps_ret (pe_and (pe_g (ok_is_sum T) hr (by rfl) (pa_cons (pv 1) (pa_cons (pe_fld (pv 0) rfl) pa_nil))) (pe_one (pe_cmpR (op_eqD0 hu1) (pe_g (ok_without_constant T) hr (by rfl) (pa_cons (pe_gm (pv 0) T.c_Space.cl (ok_Spanned_row_left T) hr (pa_cons (pv 1) pa_nil)) pa_nil)) pe_dnewK (nomark _)))))), ?_⟩
    refine ⟨_, rfl, _, rfl, p, CP, dx, _, _, rfl, hp, T.c_Space.cl, T.a_Space_own_modulus, spF_m q D, ?_⟩
    rcases h with ⟨t, W, U, g, c, L, rfl, S, R, nd, nU, sub, hW0, hU, hW, hq, hq2, k⟩ | ⟨a, dx2, fs, k, rfl, ha, hl, hk, q1⟩ | ⟨t, ht, hk, q1⟩
    · obtain ⟨dx2, d2, ht, hd2⟩ := R.ex
      refine ⟨_, _, rfl, .inl ⟨t, dx2, _, q, rfl, ht, sumF_m q d2 c, ?_⟩⟩
      rw [decide_eq_true rfl]
      refine ⟨true, rfl, iteT ?_⟩
      obtain ⟨dx3, D3, hp3, hL⟩ := S.ex
      rw [hp] at hp3
      refine ⟨_, rfl, p, dx, _, rfl, hp, spF_no q D (by decide +kernel) (by decide +kernel), _, rfl, ?_⟩
      refine ⟨p, t, W, U, q, g, c, L, rfl, S, R, nd, nU, sub, hW0, hU, hW, hq, hq2, fun H1 d s1 hd Rd => ?_⟩
      refine ⟨d, W, q, _, rfl, Rd, hW, fun H2 d3 s2 hd3 R3 => ?_⟩
      obtain ⟨k3, hk3, Rk3⟩ := R3
      refine fun e he => ?_
      have s3 : Same H2 (upd H2 e (.dK [])) := same_new he
      refine ⟨d3, e, k3, rfl, rfl, s3 _ _ hk3, upd_same, k _ _ ((s1.trans s2).trans s3) ?_⟩
      rw [decide_eq_true_iff]
      constructor
      · intro e0 x
        subst e0
        exact Rk3.out x rfl
      · intro h
        have hn := Rk3.toTb.names
        have : tbK k3 = [] := List.eq_nil_iff_forall_not_mem.mpr fun x hx => (rw_keys Rk3).mp hx (h x)
        have l := tbK_len hn
        rw [this] at l
        exact List.length_eq_zero_iff.mp l.symm
    · refine ⟨_, _, rfl, .inl ⟨a, dx2, fs, k, rfl, ha, hl, ?_⟩⟩
      rw [decide_eq_false hk]
      exact ⟨false, rfl, iteF q1⟩
    · exact ⟨_, _, rfl, .inr ⟨t, ht, hk, false, rfl, iteF q1⟩⟩
def spSpaceEq (CP : Addr) : Sp := fun vs H Q _ => ∃ (a b : Addr) (W W' : List Str) (q : Int) (L L' : Ld), vs = [.ref a, .ref b] ∧ SpAt CP H a W q L ∧ SpAt CP H b W' q L' ∧
  ∀ v, (v = true ↔ ∀ p, p ∈ bs L ↔ p ∈ bs L') → Q (.bl v) H
theorem ok_Space_eq (T : Tx K mg CS CP AM) : GM P w K mg base 1 CP "__eq__" (spSpaceEq CP) := by
  refine Md.gm T.m_Space_eq sc_Space_eq (fun vs H Q E h => ?_) (fun _ _ _ _ _ _ us hl => match us, hl with | [_, _], _ => rfl) (fun f cdv A outer s H vs Q E hr h => ?_)
  · obtain ⟨a, b, W, W', q, L, L', rfl, _⟩ := h
    rfl
  · obtain ⟨a, b, W, W', q, L, L', rfl, S, S', k⟩ := h
    obtain ⟨dx, D, ha, hL⟩ := S.ex
    obtain ⟨dy, D', hb, hL'⟩ := S'.ex
    have hu1 := hr.units
    refine ⟨_, (pss_cons (ps_if (pt_not (pt_val (pe_callB call_isi (by rfl) T.n_isinstance bo_isinstance (pa_cons (pv 1) (pa_cons (pe_gref (by rfl) T.c_Space.g) pa_nil))))) (pss_one (ps_ret pe_bl)) pss_nil)
      (pss_one (ps_ret (pe_and (pe_cmpR op_eq (pe_fld (pv 1) rfl) (pe_fld (pv 0) rfl) (nomark _)) (pe_one (pe_cmpR (op_eqLd hu1) (pe_fld (pv 1) rfl) (pe_fld (pv 0) rfl) (nomark _))))))), ?_⟩
    refine ⟨_, rfl, _, _, _, _, true, rfl, .own CP, tyOf_P T hb, T.k_PP, true, rfl, iteF ?_⟩
    refine ⟨_, rfl, b, CP, dy, _, _, rfl, hb, T.c_Space.cl, T.a_Space_own_modulus, spF_m q D', _, rfl, a, CP, dx, _, _, rfl, ha, T.c_Space.cl, T.a_Space_own_modulus, spF_m q D, rfl, true, ?_, iteT ?_⟩
    · rw [decide_eq_true rfl]
    refine ⟨_, rfl, b, CP, dy, _, _, rfl, hb, T.c_Space.cl, T.a_Space_own_rows, spF_r q D', _, rfl, a, CP, dx, _, _, rfl, ha, T.c_Space.cl, T.a_Space_own_rows, spF_r q D, ?_⟩
    refine ⟨D', D, W', W, q, L', L, rfl, rfl, hL', hL, slt_nodup S'.so, slt_nodup S.so, fun v hv => k v ?_⟩
    rw [hv]
    have mem : ∀ {M : Ld} {p : Str × (Str → Int)}, p ∈ bs M ↔ ∃ a, (p.1, a, p.2) ∈ M := fun {M p} => ⟨bs_mem, fun ⟨a, h⟩ => List.mem_map.mpr ⟨_, h, rfl⟩⟩
    constructor
    · intro h p
      rw [mem, mem]
      exact (h p.1 p.2).symm
    · intro h x f
      have := h (x, f)
      rw [mem, mem] at this
      exact this.symm
end
end K14
/-! R8 -/
set_option Elab.async false
set_option linter.all false
set_option maxRecDepth 100000
set_option maxHeartbeats 4000000
/-! R8: a method whose last statement is super().m(e, ..). -/
namespace K14
open PySem PySem.Spec PyProof.Rows L2
open NdefX (NF NScope CellsAt startF ncx inv_startN envF)
open PySem.W (ks_loadName_global)
/-- what a method with super() must have of the text -/
structure SupD (P : Program) (K : PySem.W.Frag) (C : Addr) (m name qual : Str) (params : Arguments) (body : List Stmt) (scope : Scope) (f f2 cc cda : Addr) (fd : FuncData) : Prop where
  fn : ∃ (oc : Value) (od : Option Addr) (kV doc pm : Value) (an : Option Addr) (ct : Value) (osl : Array (Option Value)), fd = PySem.W.fnX name qual params body scope [("__class__", cc)] .none kV doc pm an (.ref cda) ct ∧ K.lookup f = some ⟨oc, od, .func fd, osl⟩
  code : PySem.W.codeIn K (.ref cda) qual = true
  file : ∃ (ccl : Value) (cdd : Option Addr) (vs : Array Value) (ccs : Array (Option Value)) (file : Str) (tf : Tok), K.lookup cda = some ⟨ccl, cdd, .fields vs, ccs⟩ ∧ vs[2]? = some (.str file tf) ∧ ((P.main.file : Str) == file) = true
  cell : ∃ (cl : Value) (cld : Option Addr) (csl : Array (Option Value)), K.lookup cc = some ⟨cl, cld, .cell (some (.ref C)), csl⟩
  cls : ∃ cd, PySem.W.clsIn K C = some cd ∧ PySem.W.alongIn K m ((cd.mro.dropWhile (· != .ref C)).drop 1) = some (some (.ref f2))
  sub : PySem.W.mroIn K C (.ref C) = some true
  isf : (K.lookup f2).map (·.cls) = some (.type "function")
  fi : PySem.W.fnIn K f2 = true
  opq : PySem.W.nsIn K cStatics "thirdparty.any" = some none
  top : (P.main.scope.names.lookup ("super" : Str)).isSome = false
section
variable {P : Program} {w : World} {K : PySem.W.Frag} {mg : Str → Option Value} {base : Heap}
def supNF (name qual : Str) (params : Arguments) (body : List Stmt) (scope : Scope) (cc cda : Addr) : NF := ⟨name, qual, params, body, scope, [("__class__", cc)], cda⟩
theorem fn_super {C f f2 cc cda : Addr} {m name qual self : Str} {params : Arguments} {s1 s2 : Stmt} {p0 p1 apos pos pos2 : Pos} {e : Expr} {es : List Expr} {scope : Scope} {fd : FuncData} {N ps : List Str} {k : Nat} {sp spB : Sp}
    (D : SupD P K C m name qual params [s1, s2, .Expr (.Call (.Attribute (.Call (.Name "super" p0) [] [] p1) m apos) (e :: es) [] pos) pos2] scope f f2 cc cda fd) (F2 : FnR P w K mg base CX0 k f2 spB) (hg : mg "super" = none)
    (S : NScope N ps ["__class__"] scope) (hN : N[0]? = some self) (hself : (params.posonlyargs ++ params.args).head? = some ar) (har : ar.arg = self) (hks : scope.names.lookup ("super" : Str) = some .globalImplicit) (hkc : scope.names.lookup ("__class__" : Str) = some .free) (hka : scope.names.lookup self = some .local)
    (hev : ∀ env : Env, ∃ pl, eval (.Call (.Attribute (.Call (.Name "super" p0) [] [] p1) m apos) (e :: es) [] pos) env = (do
      let ov ← attributeBase (.Call (.Name "super" p0) [] [] p1) m env (eval (.Call (.Name "super" p0) [] [] p1) env)
      standAt apos.atName
      let (f, first) ← holding [ov] (getMethod ov m pl)
      callWith pos f first (backTo pos (starEach (e :: es) env)) []))
    (hst : ∀ env : Env, starEach (e :: es) env = (false, eval e env) :: starEach es env) (hpl : ∀ env : Env, (backTo pos (starEach es env)).any (·.1) = false)
    (hm : (m == ("__class__" : Str)) = false) (len : ∀ vs H Q E, sp vs H Q E → vs.length = ps.length)
    (hbody : ∀ (A : Around) (outer : List Env) (s : Shared) (H : Hp) (vs : List V) (Q : VK) (E : XK), Room k (A.deeper (envF (supNF name qual params [s1, s2, .Expr (.Call (.Attribute (.Call (.Name "super" p0) [] [] p1) m apos) (e :: es) [] pos) pos2] scope cc cda) f s.heap.objs.size)) → sp vs H Q E →
      ∃ t1 t2 ta, PS (ncx CX0 P w K mg base N (supNF name qual params [s1, s2, .Expr (.Call (.Attribute (.Call (.Name "super" p0) [] [] p1) m apos) (e :: es) [] pos) pos2] scope cc cda) f A outer s H E) s1 t1 ∧
        PS (ncx CX0 P w K mg base N (supNF name qual params [s1, s2, .Expr (.Call (.Attribute (.Call (.Name "super" p0) [] [] p1) m apos) (e :: es) [] pos) pos2] scope cc cda) f A outer s H E) s2 t2 ∧
        PA (ncx CX0 P w K mg base N (supNF name qual params [s1, s2, .Expr (.Call (.Attribute (.Call (.Name "super" p0) [] [] p1) m apos) (e :: es) [] pos) pos2] scope cc cda) f A outer s H E) (e :: es) ta ∧
        t1 { nx := fun σ1 H1 => t2 { nx := fun σ2 H2 => ∃ x dx fs, σ2[0]? = some (some (.ref x)) ∧ H2 x = some (.ins C dx fs) ∧ ta σ2 H2 fun us H3 => spB (.ref x :: us) H3 (fun _ H4 => Q .non H4) E0, rt := fun _ _ => False } σ1 H1, rt := fun _ _ => False } (startF N vs [none]) H) :
    FnOk P w K mg base CX0 (k + 1) f fd ps sp := by
  obtain ⟨oc, od, kV, doc, pm, an, ct, osl, rfl, lk⟩ := D.fn
  refine ⟨len, fun A outer s H args us vs Q E hr e0 hb r hsp => ?_⟩
  have hl := len _ _ _ _ hsp
  have KX : K.In s.heap := e0.mod.kin.keeps fun b o e => (e0.bs b o e).1
  have lim : s.heap.NoLimit := e0.mod.nolimit.keeps fun b o e => (e0.bs b o e).1
  obtain ⟨cl, cld, csl, hcc⟩ := D.cell
  have CA : CellsAt [("__class__", cc)] ["__class__"] [none] s.heap H := by
    have hH : H cc = none := (e0.bs cc _ (e0.mod.kin _ _ hcc)).2
    have hcl : s.heap.IsCell cc (some (.ref C)) := ⟨_, KX _ _ hcc, rfl⟩
    refine ⟨rfl, fun y c hy => ?_, fun x y c hx hy => ?_, fun i y hi => ?_⟩
    · obtain ⟨h1, h2⟩ : y = "__class__" ∧ c = cc := by
        by_cases e : y = "__class__"
        · subst e
          exact ⟨rfl, (Option.some.inj hy).symm⟩
        · have : (y == ("__class__" : Str)) = false := by simpa using e
          simp [List.lookup, this] at hy
      rw [h2]
      exact ⟨hH, _, hcl⟩
    · have hx' : x = "__class__" := by
        by_cases e : x = "__class__"
        · exact e
        · have : (x == ("__class__" : Str)) = false := by simpa using e
          simp [List.lookup, this] at hx
      have hy' : y = "__class__" := by
        by_cases e : y = "__class__"
        · exact e
        · have : (y == ("__class__" : Str)) = false := by simpa using e
          simp [List.lookup, this] at hy
      rw [hx', hy']
    · cases i with
      | zero =>
        have e : y = "__class__" := (Option.some.inj hi).symm
        subst e
        exact ⟨cc, rfl, fun v hv => by cases hv⟩
      | succ i => cases hi
  refine codeAny_call_function hr.depth (KX _ _ lk) rfl S.co S.gen rfl (PySem.W.codeRec_of KX D.code) (hb _ _ _ _ ?_)
  refine wpAny_newFunctionEnv S.nocell (fun ⟨n, _⟩ hy => S.par n (List.of_mem_zip hy).1) (fun h₁ hns hsb => ⟨lim.fresh _ hsb, ?_⟩) S.kind
  generalize hF : supNF name qual params [s1, s2, .Expr (.Call (.Attribute (.Call (.Name "super" p0) [] [] p1) m apos) (e :: es) [] pos) pos2] scope cc cda = F at hbody
  have hFs : F.scope = scope := by rw [← hF]; rfl
  have kp : ∀ b o, s.heap.get? b = some o → h₁.get? b = some o := fun b o e => hsb.extBut b o (Nat.ne_of_lt (Heap.lt_size e)) (Heap.get?_push_of_some _ e)
  obtain ⟨t1, t2, ta, ht1, ht2, hta, hq⟩ := hbody A outer s H vs Q E (by rw [← hF]; exact hr.deeper _) hsp
  have I : L2.Inv (ncx CX0 P w K mg base N F f A outer s H E) [] (startF N vs [none]) H { s with heap := h₁, toks := s.toks + (ps.zip us).length } :=
    inv_startN (by rw [hFs]; exact S) hr.hd e0 hl r (by rw [← hF]; exact CA) hns kp
  have henv : envF F f s.heap.objs.size = PySem.W.envX qual scope s.heap.objs.size f (.ref cda) [("__class__", cc)] := by rw [← hF]; rfl
  show codeAny _ _ (.func [s1, s2, .Expr (.Call (.Attribute (.Call (.Name "super" p0) [] [] p1) m apos) (e :: es) [] pos) pos2] (PySem.W.envX qual scope s.heap.objs.size f (.ref cda) [("__class__", cc)])) _ _
  rw [← henv]
  refine ks_codeAny_funcAt ?_
  have fin : ∀ {σ' : L2.St} {H' : Hp} {s' : Shared} {v : V} {u : Value}, L2.Inv (ncx CX0 P w K mg base N F f A outer s H E) [] σ' H' s' → L2.RelV v u → Q v H' → CE outer P w H s Q u s' :=
    fun {σ' H' s' v u} J rv q => ⟨v, H', J.os, J.bare, J.base, J.hok, rv, q⟩
  refine ks_wpAt_execs_cons (ks_wpAt_mono (wpAt_of_wpAny (ht1.run [] _ _ H _ I hq)) (fun fl s' hs => ?_) fun e s' h => h)
  cases fl with
  | ret u =>
    obtain ⟨_, _, _, _, _, q⟩ := hs
    exact False.elim q
  | brk =>
    obtain ⟨_, _, _, q⟩ := hs
    exact False.elim q
  | cont =>
    obtain ⟨_, _, _, q⟩ := hs
    exact False.elim q
  | next =>
  obtain ⟨σ1, H1, I1, q1⟩ := hs
  refine ks_wpAt_execs_cons (ks_wpAt_mono (wpAt_of_wpAny (ht2.run [] _ _ H1 _ I1 q1)) (fun fl s2' hs => ?_) fun e s' h => h)
  cases fl with
  | ret u =>
    obtain ⟨_, _, _, _, _, q⟩ := hs
    exact False.elim q
  | brk =>
    obtain ⟨_, _, _, q⟩ := hs
    exact False.elim q
  | cont =>
    obtain ⟨_, _, _, q⟩ := hs
    exact False.elim q
  | next =>
  obtain ⟨σ2, H2, I2, x, dx, fs, hx, hins, q2⟩ := hs
  obtain ⟨pl, hpl2⟩ := hev (envF F f s.heap.objs.size)
  refine ks_wpAt_execs_cons (ks_wpAt_Expr_any (ks_wpAt_MethodCall (pl := pl) ?main hpl2) ?hi rfl)
  case hi =>
    rw [henv]
    show (scope.kind == .module && _) = false
    rw [S.kind]
    rfl
  case main =>
    obtain ⟨cd, hcd, hal⟩ := D.cls
    obtain ⟨ccl, cdd, vs2, ccs, file, tf, hcda, hvs2, hfile⟩ := D.file
    have X2 : K.In s2'.heap := I2.kIn
    obtain ⟨oD, hD1, hD2⟩ : ∃ oD, s2'.heap.get? C = some oD ∧ oD.data = .cls cd := by
      unfold PySem.W.clsIn at hcd
      split at hcd
      · rename_i c d cd' sl ho
        cases hcd
        exact ⟨_, X2 _ _ ho, rfl⟩
      · cases hcd
    obtain ⟨mA, J, _⟩ := ins_get I2.hok hins
    obtain ⟨odx, J, _⟩ := J.look
    have hfd := X2 _ _ lk
    refine ks_wpAt_super_base (env := envF F f s.heap.objs.size) (by rw [henv]; exact hks) (by rw [henv]; exact hkc) hm (by rw [henv]) hfd rfl hself (by rw [henv]) (X2 _ _ hcda) rfl hvs2 hfile D.top ?_
    obtain ⟨mb, hb1, hb2⟩ := I2.mod.blt
    refine ks_loadName_global (by rw [henv]; exact S.kind) (by rw [henv]; exact hks) (Calls.loadGlobal_builtin (by rw [henv]; exact I2.mod.glob.keeps I2.bk) hg (by rw [henv]; exact hb1.keeps I2.bk) ((hb2 _ (by decide)).trans (show bootBuiltins "super" = some (.type "super") by decide +kernel)) ⟨rfl, ?_⟩)
    refine wpAny_loadName_free (by rw [henv]; exact S.kind) (by rw [henv]; exact hkc) (by rw [henv]; rfl) ⟨_, X2 _ _ hcc, rfl⟩ ?_
    obtain ⟨mL, hns2, hlk⟩ := I2.loc
    obtain ⟨u, ru, hu⟩ := hlk 0 self _ hN hx (.inl (by show F.scope.names.lookup self = _; rw [hFs]; exact hka))
    obtain rfl : u = Value.ref x := ru
    have hmL : mL self = some (.ref x) := by
      rcases hu with ⟨_, h⟩ | ⟨h, _⟩
      · exact h
      · have h : F.scope.names.lookup self = some .cell ∨ F.scope.names.lookup self = some .free := h
        rw [hFs, hka] at h
        rcases h with h | h <;> cases h
    rw [har]
    refine wpAny_loadName_local (by rw [henv]; exact S.kind) (by rw [henv]; exact hka) hns2 hmL ?_
    obtain ⟨h2, g2, d2, tk2, os2⟩ := s2'
    refine ks_wpAny_isType_cls hD1 hD2 ⟨rfl, ?_⟩
    refine ks_wpAny_call_super hD1 hD2 J.at_ J.cls (fun c e => by
      have := J.no
      unfold PySem.W.notCls at this
      rw [e] at this
      exact Bool.noConfusion this) (PySem.W.looks_mroIn X2 D.sub) (fun h' e' k' => ?_)
    -- the super object is pinned; then its bound method
    have I3 := ClX.pin_new (t' := tk2) I2 k' (Nat.le_refl _) e' (fun v z => nomatch z)
    have X3 : K.In h' := I3.kIn
    obtain ⟨of, hof, hofc⟩ : ∃ of, h'.get? f2 = some of ∧ of.cls = .type "function" := by
      cases z : K.lookup f2 with
      | none =>
        have := D.isf
        rw [z] at this
        cases this
      | some of =>
        have := D.isf
        rw [z] at this
        exact ⟨of, X3 _ _ z, Option.some.inj this⟩
    have hxC : x ≠ C := by
      rintro rfl
      rw [J.at_] at hD1
      cases hD1
      have := J.no
      unfold PySem.W.notCls at this
      rw [hD2] at this
      exact Bool.noConfusion this
    refine ks_wpAny_getMethod_super e' (PySem.W.looks_opaque X3 D.opq) (l₀ := cd.mro) (fun A Q E s k q => wpAny_bind ((PySem.W.looks_clsIn X3 hcd) A _ E s k (wpAny_pure q))) rfl X3 hal hof hofc hxC hm ?_
    have I4 := ClX.met_new (g := f2) (C := x) I3
    refine ClX.callwith_cm (X := ncx CX0 P w K mg base N F f A outer s H E) (g := f2) (C := x) I4 (ClX.base_none I3 (Nat.le_refl _)) D.fi ?_ (hst _) (hpl _)
    refine wpAny_mono (hta.run pos _ _ σ2 H2 _ I4 q2) (fun us s5 hs5 => ?_) fun e s' h => h
    obtain ⟨vs5, H5, I5, r5, q5⟩ := hs5
    refine ⟨⟨ClX.pin_at I5, I5.kIn⟩, ?_⟩
    have Q5 := ClX.run_cm (X := ncx CX0 P w K mg base N F f A outer s H E) F2 (by show Room k (A.deeper (envF F f s.heap.objs.size)); rw [← hF]; exact hr.deeper _) pass0 I5 r5 q5
    refine wpAny_mono Q5 (fun v s6 h6 => ?_) fun e s' h => h
    obtain ⟨v6, H6, I6, _, q6⟩ := h6
    refine wpAt_of_wpAny ?_
    rw [execs_nil]
    exact wpAny_pure (fin (v := V.non) (u := Value.none) (ClX.unpin I6) rfl q6)
end
end K14
/-! R9 -/
set_option Elab.async false
set_option linter.all false
set_option maxRecDepth 100000
set_option maxHeartbeats 4000000
/-! R9: x in o, a == b, a != b by own __contains__, __eq__. -/
namespace K14
open PySem PySem.Spec PyProof.Rows L2
section
variable {X : Cx} {k j : Nat} {C : Addr} {sp : Sp}
/-- the call of a method found, what comes back -/
theorem gm_call {m : Str} {f : Addr} (hm : Meth X.K C m f) (G : GC X.prog X.w X.K X.mg X.base j (.ref f) sp) (hr : Room k X.A) (hl : j ≤ k) {pins : List (Addr × Obj)} {σ : L2.St} {H : Hp} {s : Shared} (I : L2.Inv X pins σ H s) {us : List Value} {vs : List V} {Q : VK} (r : Vals vs us) (h : sp vs H Q E0) :
    wpAny (model X.prog X.w) X.A (call (.ref f) us) (EP X pins σ Q) X.xe s := G X rfl rfl rfl rfl rfl (hr.mono hl) pins s σ H us vs Q I r h
def rInOwn (C : Addr) (sp : Sp) : R2 := fun x y H Q => ∃ a dx fs, y = .ref a ∧ H a = some (.ins C dx fs) ∧ sp [.ref a, x] H (fun v H' => ∃ b, v = .bl b ∧ Q (.bl b) H') E0
theorem op_inOwn {K : PySem.W.Frag} (G : GM X.prog X.w X.K X.mg X.base j C "__contains__" sp) (hr : Room k X.A) (hl : j ≤ k := by decide) : OpR X (compareOp .In) (rInOwn C sp) := by
  intro pins s σ H x y v u Q I rx ry h
  obtain ⟨a, dx, fs, rfl, ha, q⟩ := h
  obtain rfl : u = Value.ref a := ry
  obtain ⟨f, hm, G⟩ := G.ex
  obtain ⟨mA, J, _⟩ := ins_get I.hok ha
  obtain ⟨od, J, _⟩ := J.look
  obtain ⟨m, hF⟩ := I.fr
  refine PySem.W.in_K hF I.ok.mod.kin J hm.at_ hm.fn (thn (gm_call hm G hr hl I (vs := [.ref a, x]) (.cons rfl (.cons rx .nil)) q) fun r s' hq => ?_)
  obtain ⟨w, H', I', rw', b, e, q'⟩ := hq
  subst e
  obtain rfl : r = Value.bool b := rw'
  exact wpAny_truthy_bool ⟨.bl b, H', I', rfl, q'⟩
/-- two instances of the class at C -/
def rEqOwn (C : Addr) (sp : Sp) : R2 := fun x y H Q => ∃ a dx fs b dy gs, x = .ref a ∧ y = .ref b ∧ H a = some (.ins C dx fs) ∧ H b = some (.ins C dy gs) ∧ sp [.ref a, .ref b] H (fun v H' => ∃ b, v = .bl b ∧ Q (.bl b) H') E0
def rNeOwn (C : Addr) (sp : Sp) : R2 := fun x y H Q => ∃ a dx fs b dy gs, x = .ref a ∧ y = .ref b ∧ H a = some (.ins C dx fs) ∧ H b = some (.ins C dy gs) ∧ sp [.ref a, .ref b] H (fun v H' => ∃ b, v = .bl b ∧ Q (.bl (!b)) H') E0
theorem op_eqOwn (G : GM X.prog X.w X.K X.mg X.base j C "__eq__" sp) (hr : Room k X.A) (hl : j ≤ k := by decide) : OpR X (compareOp .Eq) (rEqOwn C sp) := by
  intro pins s σ H x y v u Q I rx ry h
  obtain ⟨a, dx, fs, b, dy, gs, rfl, rfl, ha, hb, q⟩ := h
  obtain rfl : v = Value.ref a := rx
  obtain rfl : u = Value.ref b := ry
  obtain ⟨f, hm, G⟩ := G.ex
  obtain ⟨mA, J, _⟩ := ins_get I.hok ha
  obtain ⟨mB, J', _⟩ := ins_get I.hok hb
  obtain ⟨od, J, _⟩ := J.look
  obtain ⟨od', J', _⟩ := J'.look
  obtain ⟨m, hF⟩ := I.fr
  refine PySem.W.cmp_K (op := .Eq) (tb := .ref C) hr.units0 hF I.ok.mod.kin J J'.type (by simp [PySem.W.notFirst]) hm.at_ hm.fn (thn (gm_call hm G hr hl I (vs := [.ref a, .ref b]) (.cons rfl (.cons rfl .nil)) q) fun r s' hq => ?_)
  obtain ⟨w, H', I', rw', b, e, q'⟩ := hq
  subst e
  obtain rfl : r = Value.bool b := rw'
  exact ⟨.bl b, H', I', rfl, q'⟩
/-- C has object's != -/
structure NeObj (K : PySem.W.Frag) (C : Addr) : Prop where
  at_ : PySem.W.findIn K (.ref C) "__ne__" = some (some (.builtin "object.__ne__"))
  mo : PySem.W.mroIn K C (.type "object") = some true
theorem op_neOwn {f : Addr} (hm : Meth X.K C "__eq__" f) (F : FnR X.prog X.w X.K X.mg X.base CX0 j f sp) (ne : NeObj X.K C) (hr : Room (k + 1) X.A) (hl : j ≤ k := by decide) : OpR X (compareOp .NotEq) (rNeOwn C sp) := by
  intro pins s σ H x y v u Q I rx ry h
  obtain ⟨a, dx, fs, b, dy, gs, rfl, rfl, ha, hb, q⟩ := h
  obtain rfl : v = Value.ref a := rx
  obtain rfl : u = Value.ref b := ry
  obtain ⟨mA, J, _⟩ := ins_get I.hok ha
  obtain ⟨mB, J', _⟩ := ins_get I.hok hb
  obtain ⟨od, J, _⟩ := J.look
  obtain ⟨od', J', _⟩ := J'.look
  have XX : X.K.In s.heap := I.kIn
  have eqCall : wpAny (model X.prog X.w) X.A.in1 (call (.ref f) [.ref a, .ref b]) (EP X pins σ fun v H' => ∃ b, v = .bl b ∧ Q (.bl (!b)) H') X.xe s := by
    refine wpAny_call (codeAny_mono (F X.A.in1 X.stack s H [.ref a, .ref b] [.ref a, .ref b] _ E0 (hr.in1.mono hl) I.env0.in1 (.cons rfl (.cons rfl .nil)) q) fun r s' hq => ?_)
    cases r with
    | error e => exact pass0 pins σ H s e s' I hq
    | ok fl =>
      cases fl with
      | ret u => exact I.after hq
      | _ => exact hq.elim
  have neCall : wpAny (model X.prog X.w) X.A (call (.builtin "object.__ne__") [.ref a, .ref b]) (fun r s' => ∃ b, r = .bool b ∧ EP X pins σ Q (.bool b) s') X.xe s := by
    refine wpAny_call (codeAny_call_builtin PySem.F.slot_object_ne.plain PySem.F.entry_object_ne (PySem.W.check_slot (owner := "object") (n := "__ne__") (by decide +kernel) (by decide +kernel) (J.type.andThen (PySem.W.looks_mroIn XX ne.mo)) (PySem.F.args_object_ne_2 _ _) ?_))
    unfold Builtin.«object.__ne__»
    refine wpAny_bind (wpAny_of_eq (a := (Value.ref a, [Value.ref b])) (by rfl) ?_)
    refine wpAny_bind (wpAny_cRoomFor hr.in1.units0 ?_)
    refine wpAny_bind (PySem.W.ifBound_K XX J hm.at_ hm.fn (thn eqCall fun r s' hq => ?_))
    obtain ⟨w, H', I', rw', b', e, q'⟩ := hq
    subst e
    obtain rfl : r = Value.bool b' := rw'
    refine wpAny_bind (wpAny_truthy_bool ?_)
    exact wpAny_pure ⟨_, rfl, ⟨.bl _, H', I', rfl, q'⟩⟩
  have one : wpAny (model X.prog X.w) X.A (tryCompare (.ref a) (cmpInfo .NotEq).2.1 (.ref b)) (fun r s' => ∃ v, r = some v ∧ EP X pins σ Q v s') X.xe s := by
    unfold tryCompare
    refine wpAny_bind ?_
    simp only [callSpecialIfBound?, bindSpecialIfBound?]
    refine wpAny_holding (wpAny_bind (wpAny_bind (wpAny_bind (J.type.here ((PySem.W.looks_findIn XX ne.at_).here ?_)))))
    refine wpAny_bind (wpAny_askSetting (wpAny_ite ?_))
    have fin : wpAny (model X.prog X.w) X.A (call (.builtin "object.__ne__") ([.ref a] ++ [.ref b]) >>= fun v => pure (some v)) (fun r s' => wpAny (model X.prog X.w) X.A (match r with
        | some .notImplemented | none => pure none
        | some v => pure (some v)) (fun r s' => ∃ v, r = some v ∧ EP X pins σ Q v s') X.xe s') X.xe s := by
      refine wpAny_bind (wpAny_mono neCall (fun r s' hq => ?_) fun _ _ h => h)
      obtain ⟨b', e, q'⟩ := hq
      subst e
      exact wpAny_pure (wpAny_pure ⟨_, rfl, q'⟩)
    split
    · exact wpAny_bind (wpAny_of_eq (PySem.F.slot_object_ne.bind _) (wpAny_pure (by exact fin)))
    · exact wpAny_tryCatch (wpAny_bind (wpAny_of_eq (PySem.F.slot_object_ne.bind _) (wpAny_pure (by exact fin))))
  unfold compareOp richCompare
  simp only [oneThing_ref]
  refine wpAny_holding (wpAny_bind (wpAny_cRoomFor hr.units0 ?_))
  refine wpAny_bind (J.type.here (wpAny_bind (J'.type.here ?_)))
  split
  · rename_i q
    simp at q
  · refine wpAny_bind (wpAny_pure ?_)
    simp only [Bool.false_eq_true, if_false]
    refine wpAny_bind (wpAny_mono one (fun r s' z => ?_) fun _ _ e => e)
    obtain ⟨v, rfl, hq⟩ := z
    exact wpAny_pure hq
end
end K14
/-! D12 -/
set_option Elab.async false
set_option linter.all false
set_option maxRecDepth 100000
set_option maxHeartbeats 4000000
/-! D12: spaces made. -/
namespace K14
open PySem PySem.Spec PyProof.Rows L2
/-- what more the walk asks of what the top has made -/
structure Ty (P : Program) (K : PySem.W.Frag) (mg : Str → Option Value) (CS CP : Addr) : Prop where
  n_super : mg "super" = none
  sup : ∃ f f2 cc cda fd fd2, SupD P K CP "__init__" "__init__" "Space.__init__" (defArgs st_Space_init) (defBody st_Space_init) (defScope st_Space_init) f f2 cc cda fd ∧
    FunD K "__init__" "Spanned.__init__" (defArgs st_Spanned_init) (defBody st_Spanned_init) (defScope st_Spanned_init) [] [] f2 fd2 ∧ Mk K CP f
  every : ∃ p g fd mc, ClX.CRead K CP mc ∧ ClX.CMet K CP mc "everything" p g ∧ FunD K "everything" "Space.everything" (defArgs st_Space_everything) (defBody st_Space_everything) (defScope st_Space_everything) [] [] g fd
  ne : NeObj K CP
section
variable {P : Program} {w : World} {K : PySem.W.Frag} {mg : Str → Option Value} {base : Heap} {CS CP AM : Addr}
def spSpannedInit (CP : Addr) : Sp := fun vs H Q _ => ∃ (p dx l : Addr) (q : Int) (U : List Str) (rs : List (Addr × (Str → Int))), vs = [.ref p, .int q, .ref l] ∧ H p = some (.ins CP dx []) ∧ Qok q ∧ Uok U ∧ H l = some (.lst (rs.map fun r => V.ref r.1)) ∧
  (∀ r ∈ rs, RowAt (WU U) q H r.1 r.2 ∧ ∀ x, r.2 x ≠ 0 → x ∈ U) ∧
  ∀ H' D L, SameB p H H' → H' p = some (.ins CP dx (spF q D)) → LeadsAt (WU U) q H' D L → (L.map (·.1)).Pairwise slt → Spans q U (rs.map (·.2)) (bs L) → Q .non H'
theorem row_ne_ins {W : List Str} {q : Int} {H : Hp} {d p C dx : Addr} {f : Str → Int} {fs : List (Str × V)} (r : RowAt W q H d f) (hp : H p = some (.ins C dx fs)) : d ≠ p := fun e => by
  obtain ⟨kvs, h, _⟩ := r
  rw [e, hp] at h
  cases h
theorem ok_Spanned_init (T : Tx K mg CS CP AM) {f : Addr} {fd : FuncData} (F : FunD K "__init__" "Spanned.__init__" (defArgs st_Spanned_init) (defBody st_Spanned_init) (defScope st_Spanned_init) [] [] f fd) : FnOk P w K mg base CX0 4 f fd ps_Spanned_init (spSpannedInit CP) := by
  refine fnok_of F sc_Spanned_init (fun vs H Q E h => ?_) (fun f cdv A outer s H vs Q E hr h => ?_)
  · obtain ⟨p, dx, l, q, U, rs, rfl, _⟩ := h
    rfl
  · obtain ⟨p, dx, l, q, U, rs, rfl, hp, hq, hU, hl, hrs, k⟩ := h
    refine ⟨_, (pss_cons (ps_fld (pv 0) (pv 1) rfl)
      (pss_one (ps_fld (pv 0) (pe_g (ok_reduced_rows T) hr (by rfl) (pa_cons (pv 2) (pa_cons (pv 1) pa_nil))) rfl))), ?_⟩
    refine ⟨_, rfl, _, rfl, p, CP, dx, [], rfl, hp, T.c_Space.cl, T.a_Space_own_modulus, (by show 0 < 1000; decide), ?_⟩
    have nlp : l ≠ p := ne_of hl hp (by intro z; cases z)
    have hp1 : (upd H p (.ins CP dx (putF "own_modulus" (.int q) []))) p = some (.ins CP dx (putF "own_modulus" (.int q) [])) := upd_same
    refine ⟨_, rfl, _, rfl, l, q, U, rs, rfl, hq, hU, by rw [upd_ne nlp]; exact hl, fun r hr => ⟨(hrs r hr).1.upd (row_ne_ins (hrs r hr).1 hp), (hrs r hr).2⟩, fun H1 D L s1 hD hL hso hS => ?_⟩
    refine ⟨_, rfl, p, CP, dx, _, rfl, s1 _ _ hp1, T.c_Space.cl, T.a_Space_own_rows, (by show 1 < 1000; decide), ?_⟩
    have hp2 := s1 _ _ hp1
    have nDp : D ≠ p := fun e => by
      rw [e, hp1] at hD
      cases hD
    refine k _ D L (fun z o nz e => ?_) upd_same ⟨by rw [upd_ne nDp]; exact hL.at_, fun u hu => (hL.row u hu).upd (row_ne_ins (hL.row u hu) hp2)⟩ hso hS
    rw [upd_ne nz]
    refine s1 _ _ ?_
    rw [upd_ne nz]
    exact e
def spSpaceInit (CS CP : Addr) : Sp := fun vs H Q _ => ∃ (p dx l : Addr) (q : Int) (U : List Str) (ts : List (Addr × (Str → Int) × Int)), vs = [.ref p, .int q, .ref l] ∧ H p = some (.ins CP dx []) ∧ Qok q ∧ Uok U ∧ ts.length ≤ 1000 ∧ (H l = some (.lst (ts.map fun t => V.ref t.1)) ∨ H l = some (.tup (ts.map fun t => V.ref t.1))) ∧
  (∀ t ∈ ts, SumAt CS H t.1 U q t.2.1 t.2.2) ∧
  ∀ H' D L, SameB p H H' → H' p = some (.ins CP dx (spF q D)) → LeadsAt (WU U) q H' D L → (L.map (·.1)).Pairwise slt → Spans q U (ts.map (·.2.1)) (bs L) → Q .non H'
abbrev N2_Space_init : List Str := ["self", "modulus", "sums", "__class__", "target"]
theorem nd2 : N2_Space_init.Nodup := by decide +kernel
theorem ok_Space_init (T : Tx K mg CS CP AM) {f f2 cc cda : Addr} {fd fd2 : FuncData} (D : SupD P K CP "__init__" "__init__" "Space.__init__" (defArgs st_Space_init) (defBody st_Space_init) (defScope st_Space_init) f f2 cc cda fd)
    (F2 : FunD K "__init__" "Spanned.__init__" (defArgs st_Spanned_init) (defBody st_Spanned_init) (defScope st_Spanned_init) [] [] f2 fd2) (hg : mg "super" = none) : FnOk P w K mg base CX0 5 f fd ps_Space_init (spSpaceInit CS CP) := by
  have R2 : FnR P w K mg base CX0 4 f2 (spSpannedInit CP) := by
    have := (ok_Spanned_init (P := P) (w := w) (base := base) T F2).raw (F2.bindsN (ps := ps_Spanned_init) (fun _ _ _ _ _ _ us hl => match us, hl with | [_, _, _], _ => rfl)) .nil
    exact this.imp fun vs H Q E h => by
      rw [List.append_nil]
      exact h
  refine fn_super (self := "self") (N := N2_Space_init) D R2 hg (NdefX.nscope_by (by decide +kernel)) rfl rfl rfl (by decide +kernel) (by decide +kernel) (by decide +kernel) (fun env => ⟨_, by rfl⟩) (fun env => by rfl) (fun env => by rfl) (by decide +kernel) (fun vs H Q E h => ?_) fun A outer s H vs Q E hr h => ?_
  · obtain ⟨p, dx, l, q, U, ts, rfl, _⟩ := h
    rfl
  · obtain ⟨p, dx, l, q, U, ts, rfl, hp, hq, hU, hlen, hl, hts, k⟩ := h
    have hW : (WU U).length ≤ 1000 := by
      have := hU.ln
      rw [List.length_cons]
      omega
    rcases hl with hl | hl
    · skip
      refine ⟨_, _, _, (ps_expr (pe_g (ok_want_modulus T) hr (by rfl) (pa_cons (pv 1) pa_nil))), (ps_expr (pe_g (ok_want_sums T) hr (by rfl) (pa_cons (pv 2) (pa_cons (pv 1) pa_nil)))), (pa_cons (pv 1) (pa_cons (pe_lc (own := [("target", 4)]) rfl nd2 (pi_list (pv 2)) (blkOk_by (N := N2_Space_init) (sc := defScope st_Space_init) (by decide +kernel)) (fun _ _ _ _ _ => (pg_name (i := 4) nd2 rfl (Or.inl rfl) (Or.inr rfl))) (fun _ _ _ _ _ => pts_nil) (fun _ _ _ _ _ => (pe_g (ok_without_constant T) hr (by rfl) (pa_cons (pe_g (ok_row_of T) hr (by rfl) (pa_cons (pv 4) pa_nil)) pa_nil)))) pa_nil)), ?_⟩
      refine ⟨_, rfl, q, rfl, hq, ?_⟩
      refine ⟨_, rfl, _, rfl, l, ts.map (·.1), q, rfl, .inl (by rw [List.map_map]; exact hl), fun a ha => ?_, fun H1 s1 => ?_⟩
      · obtain ⟨t, ht, e⟩ := List.mem_map.mp ha
        subst e
        obtain ⟨dx2, d2, g1, _⟩ := (hts t ht).ex
        exact ⟨dx2, _, g1, sumF_m _ _ _⟩
      refine ⟨p, dx, [], rfl, s1 _ _ hp, ?_⟩
      refine ⟨_, rfl, ?_⟩
      have hl1 := s1 _ _ hl
      refine ⟨_, rfl, l, rfl, ⟨_, .inl (.inl hl1)⟩, fun E hE => ?_⟩
      refine lc_by ts.length (fun n H' => ∃ rs : List (Addr × (Str → Int)), Same H1 H' ∧ H' E = some (.lst (rs.map fun r => V.ref r.1)) ∧ rs.map (·.2) = (ts.take n).map (·.2.1) ∧ ∀ r ∈ rs, r.1 ≠ E ∧ RowAt (WU U) q H' r.1 r.2 ∧ ∀ x, r.2 x ≠ 0 → x ∈ U) ⟨[], same_new hE, by rw [upd_same]; rfl, rfl, fun r hr => nomatch hr⟩ ?_ ?_
      · rintro n H2 hlt ⟨rs, s2, e2, hfs, hrs⟩
        obtain ⟨t, ht⟩ : ∃ t, ts[n]? = some t := ⟨_, List.getElem?_eq_getElem hlt⟩
        have htm := List.mem_of_getElem? ht
        have hat : (ts.map fun t => V.ref t.1)[n]? = some (V.ref t.1) := by
          rw [List.getElem?_map, ht]
          rfl
        have hl2 := s2 _ _ hl1
        refine ⟨⟨_, _, .inl (.inl hl2), hat⟩, ?_⟩
        rintro x H3 ⟨e3, hx⟩
        have e3 := e3.symm
        subst e3
        have ex := hx _ (.inl (.inl hl2))
        rw [hat] at ex
        obtain rfl := Option.some.inj ex
        have St := ((hts t htm).same s1).same s2
        refine ⟨rfl, _, rfl, t.1, WU U, U, q, t.2.1, t.2.2, rfl, St, hU.nd, hU.nm0, fun x hx => List.mem_cons_of_mem _ hx, List.mem_cons_self, by have := hU.ln; omega, fun H4 a s4 ha Ra => ?_⟩
        refine ⟨a, WU U, q, _, rfl, Ra, hW, fun H5 d s5 hd Rd => ?_⟩
        have hnc : noC (withC t.2.1 t.2.2) = t.2.1 := funext fun x => by
          unfold noC withC
          by_cases z : x = ""
          · rw [if_pos z, z, (hts t htm).sup _ hU.nm0]
          · rw [if_neg z, if_neg z]
        rw [hnc] at Rd
        have s25 := s4.trans s5
        have hE5 := s25 _ _ e2
        have ndE : d ≠ E := fun z => by
          rw [z] at hd
          rw [s4 _ _ e2] at hd
          cases hd
        have hlr : rs.length = n := by
          have := congrArg List.length hfs
          rw [List.length_map, List.length_map, List.length_take] at this
          omega
        refine ⟨_, hE5, ?_, rs ++ [(d, t.2.1)], same_mut (s2.trans s25) hE, ?_, ?_, fun r hr => ?_⟩
        · rw [List.length_map]
          exact small1000 (by omega)
        · rw [upd_same, List.map_append]
          rfl
        · rw [List.map_append, hfs, take_snoc ht, List.map_append]
          rfl
        · rcases List.mem_append.mp hr with hr | hr
          · obtain ⟨h1, h2, h3⟩ := hrs r hr
            exact ⟨h1, (h2.same s25).upd h1, h3⟩
          · rw [List.mem_singleton.mp hr]
            exact ⟨ndE, Rd.upd ndE, fun x hx => Decidable.byContradiction fun n => hx ((hts t htm).sup x n)⟩
      · rintro H2 ⟨rs, s2, e2, hfs, hrs⟩
        refine ⟨⟨_, .inl (.inl (s2 _ _ hl1)), by rw [List.length_map]; exact Nat.le_refl _⟩, ?_⟩
        rw [List.take_length] at hfs
        refine ⟨p, dx, E, q, U, rs, rfl, s2 _ _ (s1 _ _ hp), hq, hU, e2, fun r hr => ⟨(hrs r hr).2.1, (hrs r hr).2.2⟩, fun H3 D L s3 hp3 hL hso hS => ?_⟩
        rw [hfs] at hS
        exact k H3 D L (fun z o nz e => s3 _ _ nz (s2 _ _ (s1 _ _ e))) hp3 hL hso hS
    · skip
      refine ⟨_, _, _, (ps_expr (pe_g (ok_want_modulus T) hr (by rfl) (pa_cons (pv 1) pa_nil))), (ps_expr (pe_g (ok_want_sums T) hr (by rfl) (pa_cons (pv 2) (pa_cons (pv 1) pa_nil)))), (pa_cons (pv 1) (pa_cons (pe_lc (own := [("target", 4)]) rfl nd2 (pi_tup (pv 2)) (blkOk_by (N := N2_Space_init) (sc := defScope st_Space_init) (by decide +kernel)) (fun _ _ _ _ _ => (pg_name (i := 4) nd2 rfl (Or.inl rfl) (Or.inr rfl))) (fun _ _ _ _ _ => pts_nil) (fun _ _ _ _ _ => (pe_g (ok_without_constant T) hr (by rfl) (pa_cons (pe_g (ok_row_of T) hr (by rfl) (pa_cons (pv 4) pa_nil)) pa_nil)))) pa_nil)), ?_⟩
      refine ⟨_, rfl, q, rfl, hq, ?_⟩
      refine ⟨_, rfl, _, rfl, l, ts.map (·.1), q, rfl, .inr (by rw [List.map_map]; exact hl), fun a ha => ?_, fun H1 s1 => ?_⟩
      · obtain ⟨t, ht, e⟩ := List.mem_map.mp ha
        subst e
        obtain ⟨dx2, d2, g1, _⟩ := (hts t ht).ex
        exact ⟨dx2, _, g1, sumF_m _ _ _⟩
      refine ⟨p, dx, [], rfl, s1 _ _ hp, ?_⟩
      refine ⟨_, rfl, ?_⟩
      have hl1 := s1 _ _ hl
      refine ⟨_, rfl, l, rfl, ⟨_, .inl (.inl hl1)⟩, fun E hE => ?_⟩
      refine lc_by ts.length (fun n H' => ∃ rs : List (Addr × (Str → Int)), Same H1 H' ∧ H' E = some (.lst (rs.map fun r => V.ref r.1)) ∧ rs.map (·.2) = (ts.take n).map (·.2.1) ∧ ∀ r ∈ rs, r.1 ≠ E ∧ RowAt (WU U) q H' r.1 r.2 ∧ ∀ x, r.2 x ≠ 0 → x ∈ U) ⟨[], same_new hE, by rw [upd_same]; rfl, rfl, fun r hr => nomatch hr⟩ ?_ ?_
      · rintro n H2 hlt ⟨rs, s2, e2, hfs, hrs⟩
        obtain ⟨t, ht⟩ : ∃ t, ts[n]? = some t := ⟨_, List.getElem?_eq_getElem hlt⟩
        have htm := List.mem_of_getElem? ht
        have hat : (ts.map fun t => V.ref t.1)[n]? = some (V.ref t.1) := by
          rw [List.getElem?_map, ht]
          rfl
        have hl2 := s2 _ _ hl1
        refine ⟨⟨_, _, .inl (.inl hl2), hat⟩, ?_⟩
        rintro x H3 ⟨e3, hx⟩
        have e3 := e3.symm
        subst e3
        have ex := hx _ (.inl (.inl hl2))
        rw [hat] at ex
        obtain rfl := Option.some.inj ex
        have St := ((hts t htm).same s1).same s2
        refine ⟨rfl, _, rfl, t.1, WU U, U, q, t.2.1, t.2.2, rfl, St, hU.nd, hU.nm0, fun x hx => List.mem_cons_of_mem _ hx, List.mem_cons_self, by have := hU.ln; omega, fun H4 a s4 ha Ra => ?_⟩
        refine ⟨a, WU U, q, _, rfl, Ra, hW, fun H5 d s5 hd Rd => ?_⟩
        have hnc : noC (withC t.2.1 t.2.2) = t.2.1 := funext fun x => by
          unfold noC withC
          by_cases z : x = ""
          · rw [if_pos z, z, (hts t htm).sup _ hU.nm0]
          · rw [if_neg z, if_neg z]
        rw [hnc] at Rd
        have s25 := s4.trans s5
        have hE5 := s25 _ _ e2
        have ndE : d ≠ E := fun z => by
          rw [z] at hd
          rw [s4 _ _ e2] at hd
          cases hd
        have hlr : rs.length = n := by
          have := congrArg List.length hfs
          rw [List.length_map, List.length_map, List.length_take] at this
          omega
        refine ⟨_, hE5, ?_, rs ++ [(d, t.2.1)], same_mut (s2.trans s25) hE, ?_, ?_, fun r hr => ?_⟩
        · rw [List.length_map]
          exact small1000 (by omega)
        · rw [upd_same, List.map_append]
          rfl
        · rw [List.map_append, hfs, take_snoc ht, List.map_append]
          rfl
        · rcases List.mem_append.mp hr with hr | hr
          · obtain ⟨h1, h2, h3⟩ := hrs r hr
            exact ⟨h1, (h2.same s25).upd h1, h3⟩
          · rw [List.mem_singleton.mp hr]
            exact ⟨ndE, Rd.upd ndE, fun x hx => Decidable.byContradiction fun n => hx ((hts t htm).sup x n)⟩
      · rintro H2 ⟨rs, s2, e2, hfs, hrs⟩
        refine ⟨⟨_, .inl (.inl (s2 _ _ hl1)), by rw [List.length_map]; exact Nat.le_refl _⟩, ?_⟩
        rw [List.take_length] at hfs
        refine ⟨p, dx, E, q, U, rs, rfl, s2 _ _ (s1 _ _ hp), hq, hU, e2, fun r hr => ⟨(hrs r hr).2.1, (hrs r hr).2.2⟩, fun H3 D L s3 hp3 hL hso hS => ?_⟩
        rw [hfs] at hS
        exact k H3 D L (fun z o nz e => s3 _ _ nz (s2 _ _ (s1 _ _ e))) hp3 hL hso hS
end
end K14
/-! D13 -/
set_option Elab.async false
set_option linter.all false
set_option maxRecDepth 100000
set_option maxHeartbeats 4000000
/-! D13: Space(..), Space.everything(..). -/
namespace K14
open PySem PySem.Spec PyProof.Rows L2
section
variable {P : Program} {w : World} {K : PySem.W.Frag} {mg : Str → Option Value} {base : Heap} {CS CP AM : Addr}
def spSpace (CS CP : Addr) : Sp := fun vs H Q _ => ∃ (l : Addr) (q : Int) (U : List Str) (ts : List (Addr × (Str → Int) × Int)), vs = [.int q, .ref l] ∧ Qok q ∧ Uok U ∧ ts.length ≤ 1000 ∧ (H l = some (.lst (ts.map fun t => V.ref t.1)) ∨ H l = some (.tup (ts.map fun t => V.ref t.1))) ∧
  (∀ t ∈ ts, SumAt CS H t.1 U q t.2.1 t.2.2) ∧
  ∀ H' p L, Same H H' → H p = none → Sp1 CP H' p U q L → Spans q U (ts.map (·.2.1)) (bs L) → Q (.ref p) H'
theorem gc_Space (T : Tx K mg CS CP AM) (Y : Ty P K mg CS CP) : GC P w K mg base 6 (.ref CP) (spSpace CS CP) := by
  obtain ⟨f, f2, cc, cda, fd, fd2, D, F2, M⟩ := Y.sup
  have hb : Binds K fd ps_Space_init [] := by
    obtain ⟨oc, od, kV, doc, pm, an, ct, osl, rfl, lk⟩ := D.fn
    exact .all fun us hl => match us, hl with | [_, _, _], _ => rfl
  have G := gc_make M (ok_Space_init (P := P) (w := w) (base := base) T D F2 Y.n_super) hb .nil
  refine G.imp fun vs H Q h => ?_
  obtain ⟨l, q, U, ts, rfl, hq, hU, hlen, hl, hts, k⟩ := h
  intro x dx nx ndx ndxx
  have s0 : Same H (upd (upd H dx (.own x)) x (.ins CP dx [])) := fun b o e => by
    rw [upd_ne (ne_of_none e nx), upd_ne (ne_of_none e ndx)]
    exact e
  show spSpaceInit CS CP ([.ref x, .int q, .ref l] ++ []) _ _ _
  rw [List.append_nil]
  refine ⟨x, dx, l, q, U, ts, rfl, upd_same, hq, hU, hlen, ?_, fun t ht => (hts t ht).same s0, fun H' D L s hp hL hso hS => ⟨rfl, k H' x L (fun b o e => s _ _ (ne_of_none e nx) (s0 _ _ e)) nx ⟨⟨⟨dx, D, hp, hL⟩, hso⟩, hS.rr, hU, hq⟩ hS⟩⟩
  rcases hl with hl | hl
  · exact .inl (s0 _ _ hl)
  · exact .inr (s0 _ _ hl)
theorem ok_Space (T : Tx K mg CS CP AM) (Y : Ty P K mg CS CP) : GN P w K mg base 6 "Space" (spSpace CS CP) := ⟨⟨.ref CP, T.c_Space.g, T.c_Space.kc, gc_Space T Y⟩⟩
def unitF (x : Str) : Str → Int := fun y => if y = x then 1 else 0
def spEvery (CP : Addr) : Sp := fun vs H Q _ => ∃ (l : Addr) (q : Int) (U ns : List Str), vs = [.ref CP, .int q, .ref l] ∧ Qok q ∧ Uok U ∧ H l = some (.lst (ns.map V.str)) ∧ ns.length ≤ 1000 ∧ (∀ x ∈ ns, x ∈ U) ∧
  ∀ H' p L, Same H H' → H p = none → Sp1 CP H' p U q L → Spans q U (ns.map unitF) (bs L) → Q (.ref p) H'
theorem tb_unit {U : List Str} {x : Str} (hx : x ∈ U) : Tb U [((Sum.inr x : Key), V.int 1)] (unitF x) := by
  refine ⟨by simp, fun p hp => ?_, fun y h => ?_⟩
  · rw [List.mem_singleton.mp hp]
    exact ⟨x, by unfold unitF; rw [if_pos rfl], hx⟩
  · unfold unitF
    by_cases z : y = x
    · subst z
      rw [valV_pos rfl] at h
      cases h
    · rw [if_neg z]
theorem ok_everything (T : Tx K mg CS CP AM) (Y : Ty P K mg CS CP) {g : Addr} {fd : FuncData} (F : FunD K "everything" "Space.everything" (defArgs st_Space_everything) (defBody st_Space_everything) (defScope st_Space_everything) [] [] g fd) :
    FnR P w K mg base CX0 8 g (spEvery CP) := by
  have GS : GC P w K mg base 6 (.ref CP) (spSpace CS CP) := gc_Space T Y
  have FK : FnOk P w K mg base CX0 8 g fd ps_Space_everything (spEvery CP) := by
    refine fnok_of F sc_Space_everything (fun vs H Q E h => ?_) (fun f cdv A outer s H vs Q E hr h => ?_)
    · obtain ⟨l, q, U, ns, rfl, _⟩ := h
      rfl
    · obtain ⟨l, q, U, ns, rfl, hq, hU, hl, hlen, hns, k⟩ := h
      have hqp := hq.pos
      refine ⟨_, (pss_cons (ps_expr (pe_g (ok_want_modulus T) hr (by rfl) (pa_cons (pv 1) pa_nil)))
      (pss_cons (ps_expr (pe_g (ok_want_name_list T) hr (by rfl) (pa_cons (pv 2) pa_nil)))
      (pss_one (ps_ret (pe_gv (i := 0) (v := .ref CP) (u := .ref CP) (fun _ h => h) GS T.c_Space.kc hr rfl (Or.inl rfl) (pa_cons (pv 1) (pa_cons (pe_lc (own := [("name", 3)]) rfl sc_Space_everything.nd (pi_list (pv 2)) (blkOk_by (N := N_Space_everything) (sc := defScope st_Space_everything) (by decide +kernel)) (fun _ _ _ _ _ => (pg_name (i := 3) sc_Space_everything.nd rfl (Or.inl rfl) (Or.inr rfl))) (fun _ _ _ _ _ => pts_nil) (fun _ _ _ _ _ => (pe_g (ok_Sum2 T) hr (by rfl) (pa_cons (pv 1) (pa_cons (pe_disp (pps_cons (pv 3) pe_int pps_nil) (by rfl) (by rfl) (fun z => by cases z) (by decide)) pa_nil))))) pa_nil))))))), ?_⟩
      refine ⟨_, rfl, q, rfl, hq, ?_⟩
      refine ⟨_, rfl, l, ns, rfl, hl, fun x hx => hU.nm x (hns x hx), fun H1 s1 => ?_⟩
      refine ⟨rfl, _, rfl, ?_⟩
      have hl1 := s1 _ _ hl
      refine ⟨_, rfl, l, rfl, ⟨_, .inl (.inl hl1)⟩, fun E hE => ?_⟩
      refine lc_by ns.length (fun n H' => ∃ ts : List (Addr × (Str → Int) × Int), Same H1 H' ∧ H' E = some (.lst (ts.map fun t => V.ref t.1)) ∧ ts.map (·.2.1) = (ns.take n).map unitF ∧ ∀ t ∈ ts, SumAt CS H' t.1 U q t.2.1 t.2.2) ⟨[], same_new hE, by rw [upd_same]; rfl, rfl, fun r hr => nomatch hr⟩ ?_ ?_
      · rintro n H2 hlt ⟨ts, s2, e2, hfs, hts⟩
        obtain ⟨x0, hx0⟩ : ∃ x, ns[n]? = some x := ⟨_, List.getElem?_eq_getElem hlt⟩
        have hxm := List.mem_of_getElem? hx0
        have hat : (ns.map V.str)[n]? = some (V.str x0) := by
          rw [List.getElem?_map, hx0]
          rfl
        have hl2 := s2 _ _ hl1
        refine ⟨⟨_, _, .inl (.inl hl2), hat⟩, ?_⟩
        rintro x H3 ⟨e3, hx⟩
        have e3 := e3.symm
        subst e3
        have ex := hx _ (.inl (.inl hl2))
        rw [hat] at ex
        obtain rfl := Option.some.inj ex
        refine ⟨rfl, _, rfl, fun d hd => ?_⟩
        refine ⟨_, rfl, upd_same, [((Sum.inr x0 : Key), V.int 1)], rfl, (by show 1 ≤ 15; decide), ?_⟩
        generalize hH5 : upd (upd H2 d (.dK [])) d (.dK (mergeK [] [((Sum.inr x0 : Key), V.int 1)])) = H5
        have s25 : Same H2 H5 := by
          rw [← hH5]
          exact same_mut (same_new hd) hd
        have hd5 : H5 d = some (.dK [((Sum.inr x0 : Key), V.int 1)]) := by
          rw [← hH5, upd_same]
          rfl
        refine ⟨d, q, rfl, d, q, 0, U, _, unitF x0, rfl, hq, hd5, tb_unit (hns x0 hxm), fun y => ?_, hU, by omega, by omega, fun H6 a s6 ha Sa => ?_⟩
        · unfold unitF
          split <;> omega
        have s26 := s25.trans s6
        have hlt2 : ts.length = n := by
          have := congrArg List.length hfs
          rw [List.length_map, List.length_map, List.length_take] at this
          omega
        have hE6 := s26 _ _ e2
        have keepE : ∀ {b : Addr} {f : Str → Int} {c : Int} {o : HO}, SumAt CS H6 b U q f c → SumAt CS (upd H6 E o) b U q f c := fun {b f c o} S => by
          obtain ⟨dx2, d2, g1, g2⟩ := S.ex
          refine ⟨⟨dx2, d2, ?_, ?_⟩, S.rg, S.sup, S.cr⟩
          · rw [upd_ne fun z => by rw [z, hE6] at g1; cases g1]
            exact g1
          · rw [upd_ne fun z => by rw [z, hE6] at g2; cases g2]
            exact g2
        refine ⟨_, hE6, ?_, ts ++ [(a, unitF x0, 0)], same_mut (s2.trans s26) hE, ?_, ?_, fun t ht => ?_⟩
        · rw [List.length_map]
          exact small1000 (by omega)
        · rw [upd_same, List.map_append]
          rfl
        · rw [List.map_append, hfs, take_snoc hx0, List.map_append]
          rfl
        · rcases List.mem_append.mp ht with ht | ht
          · exact keepE ((hts t ht).same s26)
          · rw [List.mem_singleton.mp ht]
            exact keepE Sa
      · rintro H2 ⟨ts, s2, e2, hfs, hts⟩
        refine ⟨⟨_, .inl (.inl (s2 _ _ hl1)), by rw [List.length_map]; exact Nat.le_refl _⟩, ?_⟩
        rw [List.take_length] at hfs
        have hl3 : ts.length = ns.length := by
          have := congrArg List.length hfs
          rw [List.length_map, List.length_map] at this
          exact this
        refine ⟨E, q, U, ts, rfl, hq, hU, by omega, .inl e2, hts, fun H3 p L s3 hp S3 hS => ?_⟩
        rw [hfs] at hS
        have s12 := s1.trans s2
        exact k H3 p L (s12.trans s3) (s12.free hp) S3 hS
  have := FK.raw (F.bindsN (ps := ps_Space_everything) (fun _ _ _ _ _ _ us hl => match us, hl with | [_, _, _], _ => rfl)) .nil
  exact this.imp fun vs H Q E h => by
    rw [List.append_nil]
    exact h
end
end K14
/-! R10 -/
set_option Elab.async false
set_option linter.all false
set_option maxRecDepth 100000
set_option maxHeartbeats 4000000
/-! R10: dict(zip(list, tuple)). -/
namespace PySem.W
open PySem PySem.SeqAt PyProof.Rows
section
variable {prog : Program} {w : World} {A : Around} {E : Value → Shared → Prop} {s : Shared}
/-- list and tuple, the tuple still out -/
theorem zipM_next_item_held {z TI TO T i1 i2 l1 l2 : Addr} {f : Bool} {oT : Obj} {k1 k2 : Nat} {xs ys : Array Value} {x y : Value} {Q : Value → Shared → Prop} (D : ZipApart z TI TO i1 i2 l1 l2)
    (hz : IsZipHeld s.heap z TI TO T f) (hT : s.heap.get? T = some oT) (hTI : IsPair s.heap TI (.ref i1) (.ref i2))
    (h1 : s.heap.IsListIter i1 l1 k1) (h2 : s.heap.IsTupleIter i2 l2 k2) (hl1 : s.heap.IsList l1 xs) (hl2 : s.heap.IsTuple l2 ys) (hx : xs[k1]? = some x) (hy : ys[k2]? = some y)
    (hQ : ∀ h', IsZipHeld h' z TI TO T true → h'.IsListIter i1 l1 (k1 + 1) → h'.IsTupleIter i2 l2 (k2 + 1) → IsPair h' s.heap.objs.size x y → h'.objs.size = s.heap.objs.size + 1 →
      (∀ c o, c ≠ z → c ≠ i1 → c ≠ i2 → s.heap.get? c = some o → h'.get? c = some o) → Q (.ref s.heap.objs.size) { s with heap := h' }) :
    wpAny (model prog w) A (Builtin.«zip.__next__» ⟨[.ref z], []⟩) (fun fin s' => ∃ v, fin = .done (.ret v) ∧ Q v s') E s := by
  show wpAny _ _ (field (.ref z) 2 >>= _) _ _ _
  refine wpAny_bind (wpAny_field hz rfl (x := .bool false) rfl ?_)
  show wpAny _ _ (field (.ref z) 3 >>= _) _ _ _
  refine wpAny_bind (wpAny_field hz rfl (x := .ref TI) rfl ?_)
  refine wpAny_bind (wpAny_seqItems hTI rfl ?_)
  show wpAny _ _ (Builtin.SmallTypes.ownedTupleIsFree (.ref z) >>= _) _ _ _
  refine wpAny_bind (wpAny_tupleHeld_zip hz hT fun h₁ hz₁ hs₁ => ?_)
  simp only [Bool.false_eq_true, if_false]
  refine wpAny_bind ?_
  rw [← Array.forIn_toList]
  simp only [List.forIn_cons, List.forIn_nil]
  refine wpAny_bind (wpAny_bind (wpAny_holding ?_))
  show wpAny _ _ (Builtin.SmallTypes.nextOf (.ref i1) >>= _) _ _ _
  refine wpAny_bind (wpAny_nextOf_list_item (s := { s with heap := h₁ }) (h1.extBut hs₁.extBut D.i1z) (hl1.extBut hs₁.extBut D.l1z) hx fun h₂ h1₂ hs₂ => wpAny_pure ?_)
  refine wpAny_pure ?_
  refine wpAny_bind (wpAny_bind (wpAny_holding ?_))
  show wpAny _ _ (Builtin.SmallTypes.nextOf (.ref i2) >>= _) _ _ _
  refine wpAny_bind (wpAny_nextOf_tuple_item (s := { s with heap := h₂ }) ((h2.extBut hs₁.extBut D.i2z).extBut hs₂.extBut D.i12.symm) ((hl2.extBut hs₁.extBut D.l2z).extBut hs₂.extBut D.l2i1) hy fun h₃ h2₃ hs₃ => wpAny_pure ?_)
  refine wpAny_pure (wpAny_pure ?_)
  show wpAny _ _ (newTuple [x, y] >>= _) _ _ _
  refine wpAny_bind (wpAny_newTuple ?_)
  have hsz : h₃.objs.size = s.heap.objs.size := by rw [hs₃.1, hs₂.1, hs₁.1]
  have hz₃ : IsZipHeld h₃ z TI TO T true := hs₃.extBut _ _ D.i2z.symm (hs₂.extBut _ _ D.i1z.symm hz₁)
  have hk : ∀ c o, c ≠ z → c ≠ i1 → c ≠ i2 → s.heap.get? c = some o → h₃.get? c = some o := fun c o c1 c2 c3 e => hs₃.extBut _ _ c3 (hs₂.extBut _ _ c2 (hs₁.extBut _ _ c1 e))
  have h1₃ : h₃.IsListIter i1 l1 (k1 + 1) := h1₂.extBut hs₃.extBut D.i12
  refine wpAny_pure ⟨_, rfl, ?_⟩
  show Q (.ref h₃.objs.size) _
  have hp : IsPair (h₃.push { cls := .type "tuple", data := .seq #[x, y] }) h₃.objs.size x y := Heap.get?_push_size _ rfl
  have hz4 : (h₃.push { cls := .type "tuple", data := .seq #[x, y] }).objs.size = h₃.objs.size + 1 := Heap.size_push ..
  rw [hsz] at hp hz4 ⊢
  exact hQ _ (Heap.get?_push_of_some _ hz₃) (h1₃.at fun o e => Heap.get?_push_of_some _ e) (h2₃.at fun o e => Heap.get?_push_of_some _ e) hp hz4 fun c o c1 c2 c3 e => Heap.get?_push_of_some _ (hk c o c1 c2 c3 e)
theorem zipM_next_end_held {z TI TO T i1 i2 l1 l2 : Addr} {f : Bool} {oT : Obj} {k1 k2 : Nat} {xs ys : Array Value} {Q : PySem.Fin → Shared → Prop} (hh : A.handled = none) (D : ZipApart z TI TO i1 i2 l1 l2)
    (hz : IsZipHeld s.heap z TI TO T f) (hT : s.heap.get? T = some oT) (hTI : IsPair s.heap TI (.ref i1) (.ref i2))
    (h1 : s.heap.IsListIter i1 l1 k1) (h2 : s.heap.IsTupleIter i2 l2 k2) (hl1 : s.heap.IsList l1 xs) (hl2 : s.heap.IsTuple l2 ys) (hend : xs[k1]? = none ∨ ys[k2]? = none)
    (hE : ∀ h' e, (∀ c o, c ≠ z → c ≠ i1 → c ≠ i2 → s.heap.get? c = some o → h'.get? c = some o) → (∃ o, h'.get? e = some o ∧ o.cls = .type "StopIteration") → E (.ref e) { s with heap := h' }) :
    wpAny (model prog w) A (Builtin.«zip.__next__» ⟨[.ref z], []⟩) Q E s := by
  show wpAny _ _ (field (.ref z) 2 >>= _) _ _ _
  refine wpAny_bind (wpAny_field hz rfl (x := .bool false) rfl ?_)
  show wpAny _ _ (field (.ref z) 3 >>= _) _ _ _
  refine wpAny_bind (wpAny_field hz rfl (x := .ref TI) rfl ?_)
  refine wpAny_bind (wpAny_seqItems hTI rfl ?_)
  show wpAny _ _ (Builtin.SmallTypes.ownedTupleIsFree (.ref z) >>= _) _ _ _
  refine wpAny_bind (wpAny_tupleHeld_zip hz hT fun h₁ hz₁ hs₁ => ?_)
  simp only [Bool.false_eq_true, if_false]
  refine wpAny_bind ?_
  rw [← Array.forIn_toList]
  simp only [List.forIn_cons, List.forIn_nil]
  refine wpAny_bind (wpAny_bind (wpAny_holding ?_))
  show wpAny _ _ (Builtin.SmallTypes.nextOf (.ref i1) >>= _) _ _ _
  cases hx : xs[k1]? with
  | none =>
    refine wpAny_bind (wpAny_nextOf_list_end (s := { s with heap := h₁ }) hh (h1.extBut hs₁.extBut D.i1z) (hl1.extBut hs₁.extBut D.l1z) hx fun h₂ e hs₂ he => ?_)
    exact hE h₂ e (fun c o c1 c2 _ x => hs₂ _ _ c2 (hs₁.extBut _ _ c1 x)) he
  | some x =>
    have hy : ys[k2]? = none := by rcases hend with h | h; rw [hx] at h; cases h; exact h
    refine wpAny_bind (wpAny_nextOf_list_item (s := { s with heap := h₁ }) (h1.extBut hs₁.extBut D.i1z) (hl1.extBut hs₁.extBut D.l1z) hx fun h₂ h1₂ hs₂ => wpAny_pure ?_)
    refine wpAny_pure ?_
    refine wpAny_bind (wpAny_bind (wpAny_holding ?_))
    show wpAny _ _ (Builtin.SmallTypes.nextOf (.ref i2) >>= _) _ _ _
    refine wpAny_bind (wpAny_nextOf_tuple_end (s := { s with heap := h₂ }) hh ((h2.extBut hs₁.extBut D.i2z).extBut hs₂.extBut D.i12.symm) ((hl2.extBut hs₁.extBut D.l2z).extBut hs₂.extBut D.l2i1) hy fun h₃ e hs₃ he => ?_)
    exact hE h₃ e (fun c o c1 c2 c3 x => hs₃ _ _ c3 (hs₂.extBut _ _ c2 (hs₁.extBut _ _ c1 x))) he
theorem pyNext_zipM_item_held {z TI TO T i1 i2 l1 l2 : Addr} {f : Bool} {oT : Obj} {k1 k2 : Nat} {xs ys : Array Value} {x y : Value} {Q : Option Value → Shared → Prop} (D : ZipApart z TI TO i1 i2 l1 l2)
    (hz : IsZipHeld s.heap z TI TO T f) (hT : s.heap.get? T = some oT) (hTI : IsPair s.heap TI (.ref i1) (.ref i2))
    (h1 : s.heap.IsListIter i1 l1 k1) (h2 : s.heap.IsTupleIter i2 l2 k2) (hl1 : s.heap.IsList l1 xs) (hl2 : s.heap.IsTuple l2 ys) (hx : xs[k1]? = some x) (hy : ys[k2]? = some y)
    (hQ : ∀ h', IsZipHeld h' z TI TO T true → h'.IsListIter i1 l1 (k1 + 1) → h'.IsTupleIter i2 l2 (k2 + 1) → IsPair h' s.heap.objs.size x y → h'.objs.size = s.heap.objs.size + 1 →
      (∀ c o, c ≠ z → c ≠ i1 → c ≠ i2 → s.heap.get? c = some o → h'.get? c = some o) → Q (some (.ref s.heap.objs.size)) { s with heap := h' }) :
    wpAny (model prog w) A (pyNext (.ref z)) Q E s := by
  have hTy : s.TypeIs (.ref z) "zip" := ⟨_, hz, rfl⟩
  unfold pyNext
  exact wpAny_bind (wpAny_attempt (wpAny_callSpecial?_slot (name := Str.ofString "__next__") hTy F.slot_zip_next
    (wpAny_call_entry F.slot_zip_next hTy F.entry_zip_next
      (zipM_next_item_held D hz hT hTI h1 h2 hl1 hl2 hx hy fun h' a1 a3 a4 a5 a6 a7 => wpAny_pure (hQ h' a1 a3 a4 a5 a6 a7)) (F.args_zip_next_1 _))))
theorem pyNext_zipM_end_held {z TI TO T i1 i2 l1 l2 : Addr} {f : Bool} {oT : Obj} {k1 k2 : Nat} {xs ys : Array Value} {Q : Option Value → Shared → Prop} (hh : A.handled = none) (D : ZipApart z TI TO i1 i2 l1 l2)
    (hz : IsZipHeld s.heap z TI TO T f) (hT : s.heap.get? T = some oT) (hTI : IsPair s.heap TI (.ref i1) (.ref i2))
    (h1 : s.heap.IsListIter i1 l1 k1) (h2 : s.heap.IsTupleIter i2 l2 k2) (hl1 : s.heap.IsList l1 xs) (hl2 : s.heap.IsTuple l2 ys) (hend : xs[k1]? = none ∨ ys[k2]? = none)
    (hQ : ∀ h', (∀ c o, c ≠ z → c ≠ i1 → c ≠ i2 → s.heap.get? c = some o → h'.get? c = some o) → Q none { s with heap := h' }) : wpAny (model prog w) A (pyNext (.ref z)) Q E s := by
  have hTy : s.TypeIs (.ref z) "zip" := ⟨_, hz, rfl⟩
  unfold pyNext
  refine wpAny_bind (wpAny_attempt (wpAny_callSpecial?_slot (name := Str.ofString "__next__") hTy F.slot_zip_next
    (wpAny_call_entry F.slot_zip_next hTy F.entry_zip_next (zipM_next_end_held hh D hz hT hTI h1 h2 hl1 hl2 hend fun h' e hk he => ?_) (F.args_zip_next_1 _))))
  obtain ⟨o, ho, hc⟩ := he
  refine wpAny_bind (wpAny_isInstance (T := "StopIteration") (b := true) ⟨o, ho, hc⟩ isSubtype_stop ?_)
  exact wpAny_pure (hQ _ hk)
end
theorem zipApart_sep {z TI TO i1 i2 l1 l2 : Addr} (D : ZipApart z TI TO i1 i2 l1 l2) : ZipSep2 z TI TO i1 i2 [i1, l1] [i2, l2] where
  TIz := D.TIz
  TOz := D.TOz
  TITO := D.TITO
  TIi1 := D.TIi1
  mem1 := by simp
  zf1 := by simp [D.i1z.symm, D.l1z.symm]
  Tf1 := by simp [D.TOi1, D.l1TO.symm]
  TIi2 := D.TIi2
  mem2 := by simp
  zf2 := by simp [D.i2z.symm, D.l2z.symm]
  Tf2 := by simp [D.TOi2, D.l2TO.symm]
  sep1_2 := by simp [D.i12, D.l2i1.symm]
  sep2_1 := by simp [D.i12.symm, D.l1i2.symm]
section
variable {prog : Program} {w : World}
theorem PairArg.zipM (z TI TO i1 i2 l1 l2 : Addr) (D : ZipApart z TI TO i1 i2 l1 l2) (xs ys : Array Value) (hle : xs.size ≤ ys.size) :
    PairArg prog w "zip" z [z, TI, TO, i1, i2, l1, l2] [z, TO, i1, i2] xs.size (fun i k v => xs[i]? = some k ∧ ys[i]? = some v)
      (fun h => IsZip h z TI TO .none ∧ IsPair h TI (.ref i1) (.ref i2) ∧ (∃ a b, IsPair h TO a b) ∧ h.IsListIter i1 l1 0 ∧ h.IsTupleIter i2 l2 0 ∧ h.IsList l1 xs ∧ h.IsTuple l2 ys) where
  type := fun s ok => ⟨_, ok.1, rfl⟩
  notDict := by decide
  keep := fun h h' ok hk => by
    obtain ⟨hz, hTI, ⟨a, b, hTO⟩, h1, h2, hl1, hl2⟩ := ok
    exact ⟨hk _ _ hz, hk _ _ hTI, ⟨a, b, hk _ _ hTO⟩, h1.at fun o e => hk _ o e, h2.at fun o e => hk _ o e, hl1.at fun o e => hk _ o e, hl2.at fun o e => hk _ o e⟩
  there := fun h ok b hb => by
    obtain ⟨hz, hTI, ⟨a, c, hTO⟩, ⟨o1, h1, _⟩, ⟨o2, h2, _⟩, ⟨o3, hl1, _⟩, ⟨o4, hl2, _⟩⟩ := ok
    simp only [List.mem_cons, List.not_mem_nil, or_false] at hb
    rcases hb with rfl | rfl | rfl | rfl | rfl | rfl | rfl
    all_goals first | exact ⟨_, hz⟩ | exact ⟨_, hTI⟩ | exact ⟨_, hTO⟩ | exact ⟨_, h1⟩ | exact ⟨_, h2⟩ | exact ⟨_, hl1⟩ | exact ⟨_, hl2⟩
  sub := fun b hb => by simp at hb ⊢; rcases hb with rfl | rfl | rfl | rfl <;> simp
  noKeys := fun A s Q E hA ok h => getAttrOr_miss_zip ok.1 rfl rfl rfl zip_no_keys (by decide +kernel) hA h
  iter := fun A s d Q E hA ok hd hdf h => by
    obtain ⟨hz, hTI, ⟨a, b, hTO⟩, h1, h2, hl1, hl2⟩ := ok
    simp only [List.mem_cons, List.not_mem_nil, or_false, not_or] at hdf
    obtain ⟨dz, dTI, dTO, di1, di2, dl1, dl2⟩ := hdf
    refine wpAny_pyIter_zip hz (h z [z, TO, i1, i2] (fun i h => IsPair h TI (.ref i1) (.ref i2) ∧ h.IsListIter i1 l1 i ∧ h.IsTupleIter i2 l2 i ∧ h.IsList l1 xs ∧ h.IsTuple l2 ys ∧
      ((IsZip h z TI TO .none ∧ ∃ a b, IsPair h TO a b) ∨ ∃ T f oT, IsZipHeld h z TI TO T f ∧ h.get? T = some oT ∧ T ≠ z ∧ T ≠ i1 ∧ T ≠ i2 ∧ T ≠ d)) s.heap s.toks ?_
      ⟨hTI, h1, h2, hl1, hl2, .inl ⟨hz, a, b, hTO⟩⟩ (fun _ _ e => e) fun b hb => .inl hb)
    exact {
      off := fun hm => by
        simp only [List.mem_cons, List.not_mem_nil, or_false] at hm
        rcases hm with e | e | e | e
        · exact dz e
        · exact dTO e
        · exact di1 e
        · exact di2 e
      frame := fun i h₁ h₂ st hk => by
        obtain ⟨hTI, h1, h2, hl1, hl2, hz⟩ := st
        refine ⟨hk _ _ (Ne.symm dTI) hTI, h1.at fun o e => hk _ o (Ne.symm di1) e, h2.at fun o e => hk _ o (Ne.symm di2) e, hl1.at fun o e => hk _ o (Ne.symm dl1) e, hl2.at fun o e => hk _ o (Ne.symm dl2) e, ?_⟩
        rcases hz with ⟨hz, a, b, hTO⟩ | ⟨T, f, oT, hz, hT, r1, r2, r3, r4⟩
        · exact .inl ⟨hk _ _ (Ne.symm dz) hz, a, b, hk _ _ (Ne.symm dTO) hTO⟩
        · exact .inr ⟨T, f, oT, hk _ _ (Ne.symm dz) hz, hk _ _ r4 hT, r1, r2, r3, r4⟩
      item := fun i s₁ Q₁ E₁ hi st hds hQ => by
        obtain ⟨hTI, h1, h2, hl1, hl2, hz⟩ := st
        have hix : i < xs.size := hi
        have hiy : i < ys.size := Nat.lt_of_lt_of_le hi hle
        have ex := Array.getElem?_eq_getElem hix
        have ey := Array.getElem?_eq_getElem hiy
        have lt : ∀ {c o}, s₁.heap.get? c = some o → s₁.heap.objs.size ≠ c := fun e => Nat.ne_of_gt (Heap.lt_size e)
        have n1 : s₁.heap.objs.size ≠ i1 := let ⟨_, e, _⟩ := h1; lt e
        have n2 : s₁.heap.objs.size ≠ i2 := let ⟨_, e, _⟩ := h2; lt e
        rcases hz with ⟨hz, a, b, hTO⟩ | ⟨T, f, oT, hz, hT, r1, r2, r3, r4⟩
        · refine K14.zipD2_item (zipApart_sep D) (Draws.list (A := A.in1) hA i1 l1 D.l1i1 xs) (Draws.tuple (A := A.in1) hA i2 l2 D.l2i2 ys) hz hTI hTO ⟨h1, hl1⟩ ⟨h2, hl2⟩ hix hiy fun x1 x2 h' tk q1 q2 a1 a2 a3 a4 a5 a6 hk => ?_
          exact hQ s₁.heap.objs.size _ _ h' tk ⟨q1, q2⟩ (.inl ⟨_, a5, rfl, _, rfl⟩)
            ⟨hk _ _ D.TIz D.TITO D.TIi1 D.TIi2 hTI, a3.1, a4.1, a3.2, a4.2,
              .inr ⟨s₁.heap.objs.size, false, _, a1, a5, lt hz, n1, n2, Nat.ne_of_gt hds⟩⟩
            fun c o hc e => hk c o (fun x => hc (by simp [x])) (fun x => hc (by simp [x])) (fun x => hc (by simp [x])) (fun x => hc (by simp [x])) e
        · refine pyNext_zipM_item_held D hz hT hTI h1 h2 hl1 hl2 ex ey fun h' a1 a3 a4 a5 a6 hk => ?_
          exact hQ s₁.heap.objs.size _ _ h' s₁.toks ⟨ex, ey⟩ (.inl ⟨_, a5, rfl, _, rfl⟩)
            ⟨hk _ _ D.TIz D.TIi1 D.TIi2 hTI, a3, a4, hl1.at fun o e => hk _ o D.l1z D.l1i1 D.l1i2 e, hl2.at fun o e => hk _ o D.l2z D.l2i1 D.l2i2 e,
              .inr ⟨T, true, oT, a1, hk _ _ r1 r2 r3 hT, r1, r2, r3, r4⟩⟩
            fun c o hc e => hk c o (fun x => hc (by simp [x])) (fun x => hc (by simp [x])) (fun x => hc (by simp [x])) e
      done := fun s₁ Q₁ E₁ st hQ => by
        obtain ⟨hTI, h1, h2, hl1, hl2, hz⟩ := st
        have hend : xs[xs.size]? = none ∨ ys[xs.size]? = none := .inl (Array.getElem?_eq_none (Nat.le_refl _))
        rcases hz with ⟨hz, a, b, hTO⟩ | ⟨T, f, oT, hz, hT, r1, r2, r3, r4⟩
        · exact K14.zipD2_end (zipApart_sep D) (Draws.list (A := A.in1) hA i1 l1 D.l1i1 xs) (Draws.tuple (A := A.in1) hA i2 l2 D.l2i2 ys) hz hTI hTO ⟨h1, hl1⟩ ⟨h2, hl2⟩ (Nat.le_refl _) hle (.inl rfl) fun h' tk hk => hQ h' tk fun c o hc e => hk c o (fun x => hc (by simp [x])) (fun x => hc (by simp [x])) (fun x => hc (by simp [x])) (fun x => hc (by simp [x])) e
        · exact pyNext_zipM_end_held hA D hz hT hTI h1 h2 hl1 hl2 hend fun h' hk => hQ h' s₁.toks fun c o hc e => hk c o (fun x => hc (by simp [x])) (fun x => hc (by simp [x])) (fun x => hc (by simp [x])) e }
end
end PySem.W

namespace K14
open PySem PySem.Spec PyProof.Rows L2
theorem rel_keyIs {k : Key} {u : Value} (r : RelV (kV k) u) : keyIs k u = true := by
  cases k with
  | inl i =>
    obtain ⟨t, rfl⟩ := (show ∃ t, u = Value.int i t from r)
    show (i == i) = true
    exact beq_self_eq_true i
  | inr x =>
    obtain ⟨t, rfl⟩ := (show ∃ t, u = Value.str x t from r)
    show (x == x) = true
    exact beq_self_eq_true x
theorem vals_keys : ∀ {ks : List Key} {us : List Value}, Vals (ks.map kV) us → us.length = ks.length ∧ ∀ (i : Nat) (k : Key) (u : Value), ks[i]? = some k → us[i]? = some u → keyIs k u = true
  | [], _, r => by
    cases r
    exact ⟨rfl, fun i k u h => by cases h⟩
  | k :: ks, _, r => by
    cases r with
    | cons a b =>
      obtain ⟨h1, h2⟩ := vals_keys b
      refine ⟨by rw [List.length_cons, List.length_cons, h1], fun i k' u e1 e2 => ?_⟩
      cases i with
      | zero =>
        have e1 := Option.some.inj e1
        have e2 := Option.some.inj e2
        subst e1
        subst e2
        exact rel_keyIs a
      | succ i => exact h2 i k' u e1 e2
section
variable {X : Cx}
def tDictZip (K : PySem.W.Frag) (ta : TA) : TE := fun σ H Q => ta σ H fun vs H1 => ∃ (a b : Addr) (ks : List Key) (xs : List V), vs = [.ref a, .ref b] ∧ SqL K H1 a (ks.map kV) ∧ SqT K H1 b xs ∧ ks.length ≤ xs.length ∧ ∀ p, H1 p = none → Q (.ref p) (upd H1 p (.dK (mergeK [] (ks.zip xs))))
theorem pe_dictZip {e e2 : Expr} {ta : TA} {p p2 q pos : Pos} (ha : PA X [e, e2] ta) (hg : Gl X "dict") (hm : X.mg "dict" = none) (hg2 : Gl X "zip") (hm2 : X.mg "zip" = none) (hc : X.calm = true := by rfl)
    (hs : starEach [e, e2] X.env = (false, eval e X.env) :: starEach [e2] X.env := by rfl) (hpl : (backTo q (starEach [e2] X.env)).any (·.1) = false := by rfl) :
    PE X (.Call (.Name "dict" p) [.Call (.Name "zip" p2) [e, e2] [] q] [] pos) (tDictZip X.K ta) := by
  refine ⟨fun pins s σ H Q I h => ?_⟩
  refine Call_ (ld_blt I hg hm bo_dict ?_)
  refine PyProof.Rows.callWith_type1 (PyProof.Rows.args_cons ?_ rfl) rfl rfl
  refine Call_ (ld_blt I hg2 hm2 PyProof.Rows.boot_zip (PyProof.Rows.callWith_type1 (thn (ha.run q pins s σ H _ I h) fun us s1 ⟨vs, H1, I1, r1, q1⟩ => ?_) hs hpl))
  obtain ⟨a, b, ks, xs, ex, hqx, hqy, hle, q1⟩ := q1
  subst ex
  cases r1 with
  | cons r rr =>
    cases rr with
    | cons r' rr =>
      cases rr
      cases r
      cases r'
      obtain ⟨its, rv, p1, hz1⟩ := I1.list hqx
      obtain ⟨its2, rv2, p2', hz2⟩ := I1.tuple hqy
      have la : a < s1.heap.objs.size := p1.lt
      have lb : b < s1.heap.objs.size := by
        obtain ⟨o2, ho2, _⟩ := id p2'
        exact Heap.lt_size ho2
      have l1 := rv.length
      have l2 := rv2.length
      rw [List.length_map] at l1 hz1
      refine zip_begins2 (begins_list a its.toArray) (begins_tuple b its2.toArray) p1.isList p2' fun h' hz hTI hTO h1 h2 hsz hk => PyProof.Rows.args_nil ?_
      have I2 : L2.Inv X pins σ H1 { s1 with heap := h' } := I1.kept (t' := s1.toks) hk
      have D := PySem.W.ktu_apart s1.heap.objs.size a b la lb
      obtain ⟨kl, kk⟩ := vals_keys rv
      refine PySem.call_dict_pairs (knd := mixKind X.prog X.w) (kvs := ks.zip its2) (PySem.W.PairArg.zipM _ _ _ _ _ _ _ D its.toArray its2.toArray (by rw [List.size_toArray, List.size_toArray]; omega)) (I1.ok.hd hc)
        ⟨hz, hTI, ⟨_, _, hTO⟩, ⟨_, h1, rfl, rfl⟩, ⟨_, h2, rfl, rfl⟩, p1.isList.at fun o e => hk _ o e, (show s1.heap.IsTuple b its2.toArray from p2').at fun o e => hk _ o e⟩ ⟨by rw [List.length_zip, List.size_toArray]; omega, fun i key v hr => ?_⟩ (by rw [List.size_toArray]; omega) fun h'' tk hd' hk' => ?_
      · obtain ⟨e1, e2⟩ := hr
        rw [List.getElem?_toArray] at e1 e2
        obtain ⟨k, hk3⟩ : ∃ k, ks[i]? = some k := ⟨_, List.getElem?_eq_getElem (by
          have := (List.getElem?_eq_some_iff.mp e1).1
          omega)⟩
        exact ⟨k, by rw [List.getElem?_zip_eq_some]; exact ⟨hk3, e2⟩, kk i k key hk3 e1⟩
      · have k2 : ∀ b u, s1.heap.get? b = some u → h''.get? b = some u := fun c o e => hk' c o (fun hcm => by
          have hl := Heap.lt_size e
          have e' : c = s1.heap.objs.size + 4 ∨ c = s1.heap.objs.size + 3 ∨ c = s1.heap.objs.size ∨ c = s1.heap.objs.size + 1 := by simpa using hcm
          have hle : s1.heap.objs.size ≤ c := by
            rcases e' with z | z | z | z
            · rw [z]; exact Nat.le_add_right _ _
            · rw [z]; exact Nat.le_add_right _ _
            · rw [z]; exact Nat.le_refl _
            · rw [z]; exact Nat.le_add_right _ _
          exact absurd hl (Nat.not_lt.mpr hle)) (hk c o e)
        have hge : s1.heap.objs.size ≤ h'.objs.size := by rw [hsz]; exact Nat.le_add_right _ _
        have rel : KV (ks.zip xs) (ks.zip its2) := by
          clear hk' hd' hle hz1 l1 l2 kl kk q1 hqx hqy rv p1 p2' hz2
          induction ks generalizing xs its2 with
          | nil => exact .nil
          | cons k ks ih =>
            cases rv2 with
            | nil => exact .nil
            | cons a b => exact .cons ⟨rfl, a⟩ (ih _ _ b)
        have hm : (h'.objs.size == sysModules) = false := beq_eq_false_iff_ne.mpr (Nat.ne_of_gt (Nat.lt_of_lt_of_le I1.big hge))
        have hlen : (mergeK [] (ks.zip xs)).length ≤ sizeLine := by
          refine Nat.le_trans (length_mergeK _ []) ?_
          rw [List.length_nil, Nat.zero_add, List.length_zip]
          omega
        exact ⟨.ref h'.objs.size, _, I1.laid (t' := tk) k2 hge (show ObjOk X.prog X.w _ _ _ (.dK (mergeK [] (ks.zip xs))) from ⟨hlen, hm, merged [] (ks.zip its2), KV.merge rel .nil, hd'⟩), rfl, q1 _ (I1.hok.fresh hge)⟩
end
end K14
/-! R11 -/
set_option Elab.async false
set_option linter.all false
set_option maxRecDepth 100000
set_option maxHeartbeats 4000000
/-! R11: list != list by own ==; any(tuple of ints); tuple * 1. -/
namespace GQ
open PySem PySem.SeqAt
open AutoSeq1 (wpAny_loadPart')
open MeetsSeq MeetsSeq2 MeetsSeq3 SeqRoads2
section
variable {prog : Program} {w : World} {A : Around} {R : Result → Shared → Prop}
theorem ne_loopG (l b : Addr) (N : Nat) (I : Nat → Shared → Prop) (hl : ListI prog w A (fun e s' => R (.error e) s') l b N I)
    (fin : ∀ s, I N s → R (.ok (.ret (.bool false))) s) (k : Nat) :
    ∀ i : Nat, N - i = k → i ≤ N → ∀ s, I i s →
      wpAny (model prog w) A.in1 (Builtin.«list.__eq__.loop» ⟨[.ref l, .ref b, rawInt i, rawInt 3], []⟩) (FinOf prog w A R) (fun e s' => R (.error e) s') s := by
  induction k with
  | zero =>
    intro i hk hi s h
    obtain ⟨items, items2, n, n2, hl1, hb1, hs1, hs2, _⟩ := hl _ _ h
    have hi' : i = N := by omega
    have hR : R (.ok (.ret (.bool false))) s := fin s (hi' ▸ h)
    obtain ⟨hp, g, d, tk, os⟩ := s
    wp_walk using wpAny_loadPart' hl1, wpAny_loadPart' hb1
    have hi1 : items[((i : Nat) : Int).toNat]? = none := by simp; omega
    have hi2 : items2[((i : Nat) : Int).toNat]? = none := by simp; omega
    rw [hi1, hi2]
    wp_walk using wpAny_loadPart' hl1, wpAny_loadPart' hb1
    show R (.ok (.ret (.bool (items.size != items2.size)))) _
    rw [hs1, hs2]
    simpa using hR
  | succ k ih =>
    intro i hk hi s h
    obtain ⟨items, items2, n, n2, hl1, hb1, hs1, hs2, turn⟩ := hl _ _ h
    have hlt : i < items.size := by omega
    have hlt2 : i < items2.size := by omega
    have ht := turn hlt hlt2
    obtain ⟨hp, g, d, tk, os⟩ := s
    wp_walk using wpAny_loadPart' hl1, wpAny_loadPart' hb1
    have hi1 : items[((i : Nat) : Int).toNat]? = some items[i] := by simp [hlt]
    have hi2 : items2[((i : Nat) : Int).toNat]? = some items2[i] := by simp [hlt2]
    have hc : ((i : Int) + 1) = ((i + 1 : Nat) : Int) := by omega
    rw [hi1, hi2]
    refine wpAny_bind (wpAny_mono ht (fun r s2 h2 => ?_) fun _ _ x => x)
    obtain ⟨hr, h2⟩ := h2
    subst hr
    have hrec := ih (i + 1) (by omega) (by omega) s2 h2
    obtain ⟨hp2, g2, d2, tk2, os2⟩ := s2
    wp_walk
    rw [hc]
    exact ⟨plainId_quiet plain_eq_loop _, codeAny_builtin entry_eq_loop (by
      rw [Around.under_plainId plain_eq_loop _]
      exact hrec)⟩
theorem list_neG (l b : Addr) (N : Nat) (I : Nat → Shared → Prop) (hl : ListI prog w A (fun e s' => R (.error e) s') l b N I)
    (fin : ∀ s, I N s → R (.ok (.ret (.bool false))) s) {s : Shared} (h : I 0 s) :
    wpAny (model prog w) A.in1 (Builtin.«list.__ne__» ⟨[.ref l, .ref b], []⟩) (FinOf prog w A R) (fun e s' => R (.error e) s') s := by
  obtain ⟨items, items2, n, n2, hl1, hb1, hs1, hs2, _⟩ := hl _ _ h
  have hrec := ne_loopG (A := A) (R := R) l b N I hl fin _ 0 rfl (Nat.zero_le _) s h
  obtain ⟨hp, g, d, tk, os⟩ := s
  have f3 := AutoSeq1.sub_list_list
  have hne : ¬ (items.size != items2.size) = true := by simp [hs1, hs2]
  wp_walk using wpAny_loadPart' hl1, wpAny_loadPart' hb1
  exact ⟨plainId_quiet plain_eq_loop _, codeAny_builtin entry_eq_loop (by
    rw [Around.under_plainId plain_eq_loop _]
    exact hrec)⟩
end
section
variable {prog : Program} {w : World} {A : Around} {E : Value → Shared → Prop} {s : Shared}
theorem rc_listNeG {l b : Addr} {N : Nat} {Q : Value → Shared → Prop} (hu : A.units < cLine) (I : Nat → Shared → Prop) (hl : ListI prog w A E l b N I)
    (fin : ∀ s, I N s → Q (.bool false) s) (h : I 0 s) : wpAny (model prog w) A (richCompare .NotEq (.ref l) (.ref b)) Q E s := by
  obtain ⟨items, items2, n, n2, hl1, hb1, _, _, _⟩ := hl _ _ h
  refine wpAny_richCompare_same_room (op := .NotEq) ⟨_, hl1, rfl⟩ ⟨_, hb1, rfl⟩ F.slot_list_ne (call_here F.slot_list_ne ⟨_, hl1, rfl⟩ F.entry_list_ne (F.args_list_ne_2 _ _) ?_) hu
  exact list_neG (R := wants (fun v s' => v ≠ .notImplemented ∧ Q v s') E) l b N I hl (fun s' q => ⟨(fun x => nomatch x), fin s' q⟩) h
end
end GQ
namespace L2
open PySem PySem.Spec PyProof.Rows
section
variable {X : Cx} {n : Nat} {D : Eqv}
def rNeL (D : Eqv) : R2 := fun x y H Q => DList D x y H ∧ ∀ H', Ext H H' → Q (.bl false) H'
theorem op_neL (hD : Mon D) (h : EqG X n D) (hr : Room (n + 1) X.A) : OpR X (compareOp .NotEq) (rNeL D) := by
  intro pins s σ H x y v u Q I rx ry hq
  obtain ⟨⟨a, b, xs, ys, rfl, rfl, ha, hb, p⟩, q⟩ := hq
  cases rx
  cases ry
  show wpAny (model X.prog X.w) X.A (richCompare .NotEq (.ref a) (.ref b)) (EP X pins σ Q) X.xe s
  refine GQ.rc_listNeG (N := xs.length) hr.units0 (fun _ s' => LoopI X pins σ H s') (fun i s' q => ?_) (fun s' ⟨H', I', e⟩ => ⟨.bl false, H', I', rfl, q H' e⟩) ⟨H, I, Ext.rfl'⟩
  obtain ⟨H1, I1, e1⟩ := id q
  obtain ⟨z, its, k, r, e⟩ := I1.hok a _ (e1 _ _ ha)
  obtain ⟨z2, its2, k2, r2, e2⟩ := I1.hok b _ (e1 _ _ hb)
  refine ⟨its.toArray, its2.toArray, k, k2, e, e2, by rw [List.size_toArray, ← r.length], by rw [List.size_toArray, ← r2.length, ← p.1], fun h1 h2 => ?_⟩
  exact turnG hD h ⟨hr, rfl⟩ p r r2 i h1 h2 s' q
end
end L2
namespace K14
open PySem PySem.Spec PyProof.Rows L2
/-! ### any(tuple of ints) -/
section
theorem truth_ints {prog : Program} {w : World} {A : Around} {its : List Value} {ns : List Int} (e : IntsAre its ns) :
    TruthOf prog w A (fun i v => its.toArray[i]? = some v) (fun i => decide (ns.getD i 0 ≠ 0)) := fun i v s Q E hv hq => by
  have hv' : its[i]? = some v := by simpa using hv
  obtain ⟨t, rfl⟩ := PyProof.Rows.IntsAre.int_at e i v hv'
  refine PySem.P.truthy_int ?_
  have : (ns.getD i 0 != 0) = decide (ns.getD i 0 ≠ 0) := by
    by_cases z : ns.getD i 0 = 0
    · rw [decide_eq_false fun n => n z, z]
      rfl
    · rw [decide_eq_true z]
      simpa using z
  rw [this]
  exact hq
end
section
variable {X : Cx} {K : PySem.W.Frag}
def rAnyT (K : PySem.W.Frag) : List V → Hp → VK → Prop := fun vs H Q => ∃ (a : Addr) (ns : List Int), vs = [V.ref a] ∧ SqT K H a (ns.map V.int) ∧ Q (.bl (ns.any fun x => decide (x ≠ 0))) H
theorem any_rangeI : ∀ ns : List Int, (List.range ns.length).any (fun i => decide (ns.getD i 0 ≠ 0)) = ns.any fun x => decide (x ≠ 0)
  | [] => rfl
  | b :: bs => by
    rw [List.length_cons, List.range_succ_eq_map, List.any_cons, List.any_map, List.any_cons, ← any_rangeI bs]
    all_goals rfl
theorem cr_anyT (hc : X.calm = true := by rfl) (hK : X.K = K := by rfl) : CallR X (.builtin "any") (rAnyT K) := by
  subst hK
  intro pins s σ H vs us Q I r h
  obtain ⟨a, ns, rfl, hs, q⟩ := h
  obtain ⟨its, rv, hl, _⟩ := I.tuple hs
  rw [Vals.ref1 r]
  have hi : IntsAre its ns := rv.ints
  have hlen : its.length = ns.length := by
    have := rv.length
    rw [List.length_map] at this
    exact this.symm
  have hT : s.heap.IsTuple a its.toArray := hl
  have hlt : a < s.heap.objs.size := by
    obtain ⟨o, ho, _⟩ := id hT
    exact Heap.lt_size ho
  refine call_any_walk (wpAny_pyIter_tuple hT ?_)
  refine ⟨_, _, _, _, _, _, _, rfl, Walks.tuple (A := X.A.in1) (I.ok.hd hc) _ a (Nat.ne_of_lt hlt) its.toArray, ⟨⟨_, Heap.get?_push_size _ rfl, rfl, rfl⟩, hT.push _⟩, truth_ints hi, fun h' tk hk => ?_⟩
  refine ⟨.bl _, H, I.kept fun b o eo => hk b o (fun hmem => ?_) (Heap.get?_push_of_some _ eo), ?_, q⟩
  · rcases List.mem_cons.mp hmem with e1 | hmem
    · exact absurd (e1 ▸ Heap.lt_size eo) (Nat.lt_irrefl _)
    · cases hmem
  · show Value.bool _ = Value.bool _
    rw [← any_rangeI, List.size_toArray, hlen]
end
end K14
/-! R12 -/
set_option Elab.async false
set_option linter.all false
set_option maxRecDepth 100000
set_option maxHeartbeats 4000000
/-! R12: sorted(list of tuples of ints), of any length. -/
namespace K14
open PySem PySem.Spec PyProof.Rows L2
theorem listLt_anti : ∀ {a b : List Int}, PySem.W.listLt a b = false → PySem.W.listLt b a = false → a = b
  | [], [], _, _ => rfl
  | [], _ :: _, h, _ => by cases h
  | _ :: _, [], _, h => by cases h
  | x :: xs, y :: ys, h, h' => by
    simp only [PySem.W.listLt] at h h'
    by_cases e : x = y
    · subst e
      rw [if_pos rfl] at h h'
      rw [listLt_anti h h']
    · rw [if_neg e] at h
      rw [if_neg fun z => e z.symm] at h'
      have h1 : decide (x < y) = false := h
      have h2 : decide (y < x) = false := h'
      have := of_decide_eq_false h1
      have := of_decide_eq_false h2
      omega
theorem sorted_uniq {α : Type} {le : α → α → Prop} (anti : ∀ a b, le a b → le b a → a = b) : ∀ {l m : List α}, l.Perm m → l.Pairwise le → m.Pairwise le → l = m
  | [], m, p, _, _ => (List.nil_perm.mp p).symm ▸ rfl
  | a :: l, [], p, _, _ => absurd (List.perm_nil.mp p) (by simp)
  | a :: l, b :: m, p, hl, hm => by
    obtain ⟨l1, l2⟩ := List.pairwise_cons.mp hl
    obtain ⟨m1, m2⟩ := List.pairwise_cons.mp hm
    have e : a = b := by
      rcases List.mem_cons.mp (p.mem_iff.mp (List.mem_cons_self (a := a) (l := l))) with z | z
      · exact z
      · rcases List.mem_cons.mp (p.mem_iff.mpr (List.mem_cons_self (a := b) (l := m))) with y | y
        · exact y.symm
        · exact anti a b (l1 b y) (m1 a z)
    subst e
    rw [sorted_uniq anti ((List.perm_cons a).mp p) l2 m2]
/-- what the tuples read as -/
def encT (b : Addr × List Int) : PyData := .tuple (b.2.map PyData.int)
def sortT (bs : List (Addr × List Int)) : List (Addr × List Int) := bs.mergeSort (PySem.W.dataLe false encT)
theorem encT_lt (a b : Addr × List Int) : PySem.W.dataLt (encT a) (encT b) = PySem.W.listLt a.2 b.2 := PySem.W.DatumOrd.lt_eq (α := PySem.W.Tup Int) ⟨a.2⟩ ⟨b.2⟩
theorem sortT_perm (bs : List (Addr × List Int)) : (sortT bs).Perm bs := List.mergeSort_perm _ _
theorem sortT_pair (bs : List (Addr × List Int)) : ((sortT bs).map (·.2)).Pairwise (fun a b => PySem.W.listLt b a = false) := by
  rw [List.pairwise_map]
  refine (PySem.W.sort_pairwise (PySem.W.sortLe_total _ _ _) bs).imp fun {a b} h => ?_
  have h : (!PySem.W.dataLt (encT b) (encT a)) = true := h
  rw [encT_lt] at h
  simpa using h
theorem sortT_same {bs cs : List (Addr × List Int)} (n1 : (bs.map (·.2)).Nodup) (n2 : (cs.map (·.2)).Nodup) : (sortT bs).map (·.2) = (sortT cs).map (·.2) ↔ ∀ v, v ∈ bs.map (·.2) ↔ v ∈ cs.map (·.2) := by
  have p1 := (sortT_perm bs).map (·.2)
  have p2 := (sortT_perm cs).map (·.2)
  constructor
  · intro e v
    rw [← p1.mem_iff, e, p2.mem_iff]
  · intro h
    refine sorted_uniq (fun a b h1 h2 => (listLt_anti h1 h2).symm) ?_ (sortT_pair bs) (sortT_pair cs)
    exact p1.trans (((List.perm_ext_iff_of_nodup n1 n2).mpr h).trans p2.symm)
section
variable {X : Cx}
def rSortTu (K : PySem.W.Frag) : List V → Hp → VK → Prop := fun vs H Q => ∃ (a : Addr) (bs : List (Addr × List Int)), vs = [V.ref a] ∧ SqL K H a (bs.map fun b => V.ref b.1) ∧ (∀ b ∈ bs, b.2 ≠ [] ∧ SqT K H b.1 (b.2.map V.int)) ∧
  ∀ p, H p = none → Q (.ref p) (upd H p (.lst ((sortT bs).map fun b => V.ref b.1)))
theorem cr_sortTu (hu : X.A.units + 64 < cLine) : CallR X (.builtin "sorted") (rSortTu X.K) := by
  intro pins s σ H vs us Q I r h
  obtain ⟨a, bs, rfl, hs, hb, q⟩ := h
  obtain ⟨its, rv, hl, hz⟩ := I.list hs
  rw [Vals.ref1 r]
  rw [List.length_map] at hz
  have e : ∀ {cs : List (Addr × List Int)} {us : List Value}, Vals (cs.map fun b => V.ref b.1) us → PySem.W.EachIs (fun v (b : Addr × List Int) => v = Value.ref b.1) us cs := by
    intro cs
    induction cs with
    | nil =>
      intro us r
      cases r
      exact .nil
    | cons c cs ih =>
      intro us r
      cases r with
      | cons a b => exact .cons a (ih b)
  have back : ∀ {cs : List (Addr × List Int)} {us : List Value}, PySem.W.EachIs (fun v (b : Addr × List Int) => v = Value.ref b.1) us cs → Vals (cs.map fun b => V.ref b.1) us := by
    intro cs us h
    induction h with
    | nil => exact .nil
    | cons a _ ih => exact .cons a ih
  have er : ∀ {cs : List (Addr × List Int)} {us : List Value}, (∀ c ∈ cs, SqT X.K H c.1 (c.2.map V.int)) → PySem.W.EachIs (fun v (b : Addr × List Int) => v = Value.ref b.1) us cs → PySem.W.EachIs (fun v b => ∃ as, Reads s.heap v (encT b) as) us cs := by
    intro cs us hc h
    induction h with
    | nil => exact .nil
    | @cons a b _ _ ha _ ih =>
      refine .cons ?_ (ih fun c hcm => hc c (List.mem_cons_of_mem _ hcm))
      exact (hd_tup (hc b List.mem_cons_self)).holds I (show RelV (V.ref b.1) a from ha)
  have e0 := e rv
  refine PySem.W.sorted_data (vs := its) (bs := bs) (enc := encT) hl.isList e0 (er (fun c hc => (hb c hc).2) e0) ?_ (.inl fun d hd => ?_) hz (fun b hbm => ?_) fun out ho hout => ?_
  · intro d hd d' hd'
    obtain ⟨b, _, rfl⟩ := List.mem_map.mp hd
    obtain ⟨c, _, rfl⟩ := List.mem_map.mp hd'
    exact PySem.W.DatumOrd.alike (α := PySem.W.Tup Int) ⟨b.2⟩ ⟨c.2⟩
  · obtain ⟨b, hbm, rfl⟩ := List.mem_map.mp hd
    have := (hb b hbm).1
    unfold encT
    cases h2 : b.2 with
    | nil => exact absurd h2 this
    | cons x r => exact ⟨_, _, rfl⟩
  · have : (encT b).depth ≤ 1 := PySem.W.Datum.depth_le (α := PySem.W.Tup Int) ⟨b.2⟩
    omega
  · obtain ⟨ep, he'⟩ := PyProof.Rows.sortedAll_at s.heap its out.toArray
    have hlen : ((sortT bs).map fun b => V.ref b.1).length ≤ sizeLine := by
      rw [List.length_map, (sortT_perm bs).length_eq]
      exact hz
    exact ⟨.ref _, upd H (s.heap.objs.size + 1) (.lst ((sortT bs).map fun b => V.ref b.1)), I.laid (t' := s.toks) (fun _ _ => PyProof.Rows.sortedAll_old) (Nat.le_succ _) ⟨hlen, out, ep, back hout, by simpa using he'⟩, rfl, q _ (I.hok.fresh (Nat.le_succ _))⟩
end
end K14
/-! R13 -/
set_option Elab.async false
set_option linter.all false
set_option maxRecDepth 100000
set_option maxHeartbeats 4000000
/-! R13: tuple * n, n = 1 too. -/
namespace K14
open PySem PySem.Spec PyProof.Rows L2
open AutoSeq1 (wpAny_loadPart')
theorem tuple_mul1 (l : Addr) (items : Array Value) (n : Nat) (dd : Option Addr) (sl : Array (Option Value)) (u : Tok) :
    Meets (Builtin.«tuple.__mul__» ⟨[.ref l, .int 1 u], []⟩) (fun _ R s => s.heap.get? l = some { cls := .type "tuple", dict := dd, data := .seq items n, slots := sl } ∧ R (.ok (.ret (Value.ref l))) s) :=
  .of_wp fun prog w A R s h => by
    obtain ⟨hp, g, d, tk, os⟩ := s
    obtain ⟨hl, h⟩ := h
    have f1 := AutoSeq1.idx_int
    have c1 : (items.isEmpty || (1 : Int) == 1) = true := by simp
    wp_walk using wpAny_loadPart' hl
    repeat (first
      | (refine wpAny_ite_false (by decide) ?_; wp_walk using wpAny_loadPart' hl)
      | (refine wpAny_ite_true (decide_eq_true c1) ?_; wp_walk using wpAny_loadPart' hl))
    exact ⟨_, rfl, h⟩
def rRepA (K : PySem.W.Frag) : R2 := fun x y H Q => ∃ l k xs, x = .ref l ∧ y = .int k ∧ SqT K H l xs ∧ xs ≠ [] ∧ 1 ≤ k ∧ k ≤ 1000 ∧ xs.length ≤ 1000 ∧ (k = 1 → Q (.ref l) H) ∧ (2 ≤ k → ∀ p, H p = none → Q (.ref p) (upd H p (.tup (List.replicate k.toNat xs).flatten)))
section
variable {X : Cx} {K : PySem.W.Frag}
theorem op_repA (hK : X.K = K := by rfl) : OpR X (binaryOp .Mult) (rRepA K) := by
  subst hK
  intro pins s σ H x y v u Q I rx ry h
  obtain ⟨l, k, xs, rfl, rfl, hT, hne, h1, h2, hz, q1, q2⟩ := h
  by_cases hk : k = 1
  · subst hk
    cases rx
    obtain ⟨t, rfl⟩ := ry
    obtain ⟨its, r, ⟨⟨cls, dd, data, sl⟩, ho, hc, n, hd⟩, hs⟩ := I.tuple hT
    simp only at hc hd
    subst hc hd
    refine wpAny_binaryOp_repeat_ref (T := "tuple") (U := "int") (by decide) ⟨_, ho, rfl⟩ (fun s' => typeIs_int s' 1 t) noFill_tuple_mul F.fills_int_mul F.slot_int_rmul repeat_tuple F.slot_int_index.lookup
      (call_meets F.slot_int_rmul (typeIs_int s 1 t) F.entry_int_rmul (F.args_int_rmul_2 _ _) (int_rmul_tuple 1 t l its.toArray n dd sl)
        ⟨ho, rfl, ⟨_, ho, rfl⟩, call_meets F.slot_tuple_mul ⟨_, ho, rfl⟩ F.entry_tuple_mul (F.args_tuple_mul_2 _ _) (tuple_mul1 l its.toArray n dd sl t) ⟨ho, ?_⟩⟩)
    exact ⟨.ref l, H, I, rfl, q1 rfl⟩
  · exact op_repT pins s σ H (.ref l) (.int k) v u Q I rx ry ⟨l, k, xs, rfl, rfl, hT, hne, by omega, h2, hz, q2 (by omega)⟩
end
end K14
/-! D14 -/
set_option Elab.async false
set_option linter.all false
set_option maxRecDepth 100000
set_option maxHeartbeats 4000000
/-! D14: the law's draws, its lists of vectors. -/
namespace K14
open PySem PySem.Spec PyProof.Rows L2
def RngAt (H : Hp) (r : Addr) : Prop := ∃ a b : Int, H r = some (.lst [.int a, .int b]) ∧ 0 ≤ a ∧ 0 ≤ b ∧ b < 2147483648
section
variable {P : Program} {w : World} {K : PySem.W.Frag} {mg : Str → Option Value} {base : Heap} {CS CP AM : Addr}
def spDraw : Sp := fun vs H Q _ => ∃ (r : Addr) (m : Int), vs = [.ref r, .int m] ∧ 1 ≤ m ∧ m ≤ 100000 ∧ RngAt H r ∧ ∀ H' d, 0 ≤ d → d < m → SameB r H H' → RngAt H' r → Q (.int d) H'
theorem ok_law_draw (T : Tx K mg CS CP AM) : GN P w K mg base 1 "_law_draw" spDraw := by
  refine Fd.gn T.f_law_draw sc_law_draw (fun vs H Q E h => ?_) (fun _ _ _ _ _ _ us hl => match us, hl with | [_, _], _ => rfl) (fun f cdv A outer s H vs Q E hr h => ?_)
  · obtain ⟨r, m, rfl, _⟩ := h
    rfl
  · obtain ⟨r, m, rfl, h1, h2, ⟨a, b, hr0, ha, hb0, hb1⟩, k⟩ := h
    refine ⟨_, (pss_cons (ps_if (pt_cmpR op_gt (pe_ix ix_list (pv 0) pe_int (fun _ _ => rfl)) pe_int (nomark _)) (pss_cons (ps_asg (pe_callB call_divmod (by rfl) T.n_divmod bo_divmod (pa_cons (pe_ix ix_list (pv 0) pe_int (fun _ _ => rfl)) (pa_cons (pv 1) pa_nil))) (pg_tup rfl (pgs_cons (pg_sub (pv 0) pe_int set_list) (pgs_cons (pg_name (i := 2) sc_law_draw.nd rfl (Or.inl rfl) (Or.inr rfl)) pgs_nil))))
      (pss_one (ps_ret (pv 2)))) pss_nil)
      (pss_cons (ps_asg (pe_op op_mod (pe_callTy call_int1 (by rfl) T.n_int bo_int (pa_cons (pe_op op_add (pe_op op_mul (pe_ix ix_list (pv 0) pe_int (fun _ _ => rfl)) pe_int) pe_int) pa_nil)) pe_int) (pg_sub (pv 0) pe_int set_list))
      (pss_one (ps_ret (pe_op op_mod (pe_op op_fdiv (pe_op op_mod (pe_callTy call_int1 (by rfl) T.n_int bo_int (pa_cons (pe_op op_mul (pe_ix ix_list (pv 0) pe_int (fun _ _ => rfl)) (pe_ix ix_list (pv 0) pe_int (fun _ _ => rfl))) pa_nil)) pe_int) pe_int) (pv 1)))))), ?_⟩
    have hq : SqL K H r [.int a, .int b] := .inl (.inl hr0)
    refine ⟨_, rfl, r, _, 0, _, rfl, rfl, hq, rfl, a, 0, rfl, rfl, _, rfl, ?_⟩
    refine ite2 (fun hpos => ?_) (fun hz => ?_)
    · refine ⟨_, rfl, r, _, 0, _, rfl, rfl, hq, rfl, _, rfl, a, m, rfl, ⟨by omega, by omega⟩, fun p hp => ?_⟩
      have hrp : r ≠ p := ne_of_none hr0 hp
      have hr1 : (upd H p (.tup [.int (a / m), .int (a % m)])) r = some (.lst [.int a, .int b]) := by
        rw [upd_ne hrp]
        exact hr0
      refine ⟨p, [.int (a / m), .int (a % m)], rfl, .inl (.inl upd_same), rfl, _, _, rfl, _, rfl, r, _, 0, 0, rfl, rfl, hr1, rfl, _, _, rfl, rfl, ?_⟩
      refine ⟨_, rfl, k _ _ (Int.emod_nonneg _ (by omega)) (Int.emod_lt_of_pos _ (by omega)) (fun z o nz e => ?_) ⟨a / m, b, upd_same, Int.ediv_nonneg ha (by omega), hb0, hb1⟩⟩
      rw [upd_ne nz, upd_ne (ne_of_none e hp)]
      exact e
    · refine ⟨_, rfl, r, _, 1, _, rfl, rfl, hq, rfl, b, 40692, rfl, rfl, .inr ⟨by omega, by omega⟩, _, 27011, rfl, rfl, .inl ⟨_, rfl, _, 2147483549, rfl, rfl, by omega, ?_⟩⟩
      have hb2 := Int.emod_nonneg (b * 40692 + 27011) (show (2147483549 : Int) ≠ 0 by omega)
      have hb3 := Int.emod_lt_of_pos (b * 40692 + 27011) (show (0 : Int) < 2147483549 by omega)
      refine ⟨_, rfl, r, _, 1, 1, rfl, rfl, hr0, rfl, ?_⟩
      have hq2 : SqL K (upd H r (.lst [.int a, .int ((b * 40692 + 27011) % 2147483549)])) r [.int a, .int ((b * 40692 + 27011) % 2147483549)] := .inl (.inl upd_same)
      refine ⟨_, rfl, r, _, 1, _, rfl, rfl, hq2, rfl, _, rfl, r, _, 1, _, rfl, rfl, hq2, rfl, (b * 40692 + 27011) % 2147483549, (b * 40692 + 27011) % 2147483549, rfl, rfl, .inl ⟨by omega, by omega⟩, .inl ⟨_, rfl, _, 2147483477, rfl, rfl, by omega, _, 19, rfl, rfl, ⟨by omega, by omega⟩, _, rfl, _, m, rfl, rfl, by omega, ?_⟩⟩
      exact k _ _ (Int.emod_nonneg _ (by omega)) (Int.emod_lt_of_pos _ (by omega)) (fun z o nz e => by rw [upd_ne nz]; exact e) ⟨a, _, upd_same, ha, hb2, by omega⟩
end
end K14
/-! R14 -/
set_option Elab.async false
set_option linter.all false
set_option maxRecDepth 100000
set_option maxHeartbeats 4000000
/-! R14: loops over a list of things and over a range; lists of tuples of numbers. -/
namespace K14
open PySem PySem.Spec PyProof.Rows L2
theorem at_map {β : Type} {rs : List β} {f : β → V} {i : Nat} {r : β} (h : rs[i]? = some r) : (rs.map f)[i]? = some (f r) := by
  rw [List.getElem?_map, h]
  rfl
theorem forL {β : Type} {K : PySem.W.Frag} {l : Addr} {g : TG} {tb : TS} {D : Ends} {σ : L2.St} {H : Hp} (rs : List β) (f : β → V) (Pv : Nat → L2.St → Hp → Prop) (h0 : Pv 0 σ H) (hl : ∀ i σ H, Pv i σ H → SqL K H l (rs.map f))
    (hs : ∀ i r σ H, rs[i]? = some r → Pv i σ H → g (f r) σ H fun σ2 H2 => tb { D with nx := Pv (i + 1), ct := Pv (i + 1), bk := D.nx } σ2 H2) (hd : ∀ σ H, Pv rs.length σ H → D.nx σ H) :
    ∃ W : Nat → Nat → L2.St → Hp → Prop, (∃ m, W 0 m σ H) ∧ ∀ i m σ H, W i m σ H →
      ((Itl K l).stop i H ∧ D.nx σ H) ∨ ((Itl K l).go i H ∧ ∃ N : L2.St → Hp → Prop, (∀ σ' H', N σ' H' → ∃ m', m' < m ∧ W (i + 1) m' σ' H') ∧ ∀ x H', (Itl K l).yld i H x H' → g x σ H' fun σ2 H2 => tb { D with nx := N, ct := N, bk := D.nx } σ2 H2) := by
  refine for_by rs.length Pv h0 (fun i σ H hi p => ?_) (fun σ H p => ⟨⟨_, hl _ _ _ p, by rw [List.length_map]; exact Nat.le_refl _⟩, hd σ H p⟩)
  have hr : rs[i]? = some rs[i] := List.getElem?_eq_getElem hi
  refine ⟨⟨_, _, hl _ _ _ p, at_map hr⟩, ?_⟩
  rintro x H2 ⟨e2, hx⟩
  subst e2
  have ex := hx _ (hl _ _ _ p)
  rw [at_map hr] at ex
  obtain rfl := Option.some.inj ex
  exact hs _ _ _ _ hr p
theorem lcL {β : Type} {K : PySem.W.Frag} {l : Addr} {g : TG} {tt : TT} {te : TE} {vs : List Nat} {σ : L2.St} {H1 : Hp} {D : Addr} {Qd : Hp → Prop} (rs : List β) (f : β → V) (Pv : Nat → Hp → Prop) (h0 : Pv 0 (upd H1 D (.lst []))) (hl : ∀ i H, Pv i H → SqL K H l (rs.map f))
    (hs : ∀ i r H, rs[i]? = some r → Pv i H → g (f r) (wipe σ vs) H fun σ2 H2 => wipe σ2 vs = wipe σ vs ∧ tt σ2 H2 fun b H3 =>
      if b = true then te σ2 H3 fun y H4 => ∃ acc, H4 D = some (.lst acc) ∧ acc.length < sizeLine ∧ Pv (i + 1) (upd H4 D (.lst (acc ++ [y]))) else Pv (i + 1) H3) (hd : ∀ H, Pv rs.length H → Qd H) :
    ∃ W : Nat → Nat → Hp → Prop, (∃ m, W 0 m (upd H1 D (.lst []))) ∧ ∀ i m H, W i m H →
      ((Itl K l).stop i H ∧ Qd H) ∨ ((Itl K l).go i H ∧ ∃ Nx : Hp → Prop, (∀ H', Nx H' → ∃ m', m' < m ∧ W (i + 1) m' H') ∧ ∀ x H', (Itl K l).yld i H x H' → g x (wipe σ vs) H' fun σ2 H2 => wipe σ2 vs = wipe σ vs ∧ tt σ2 H2 fun b H3 =>
        if b = true then te σ2 H3 fun y H4 => ∃ acc, H4 D = some (.lst acc) ∧ acc.length < sizeLine ∧ Nx (upd H4 D (.lst (acc ++ [y]))) else Nx H3) := by
  refine lc_by rs.length Pv h0 (fun i H hi p => ?_) (fun H p => ⟨⟨_, hl _ _ p, by rw [List.length_map]; exact Nat.le_refl _⟩, hd H p⟩)
  have hr : rs[i]? = some rs[i] := List.getElem?_eq_getElem hi
  refine ⟨⟨_, _, hl _ _ p, at_map hr⟩, ?_⟩
  rintro x H2 ⟨e2, hx⟩
  subst e2
  have ex := hx _ (hl _ _ p)
  rw [at_map hr] at ex
  obtain rfl := Option.some.inj ex
  exact hs _ _ _ hr p
theorem forR {lo : Int} {g : TG} {tb : TS} {D : Ends} {σ : L2.St} {H : Hp} (n : Nat) (Pv : Nat → L2.St → Hp → Prop) (h0 : Pv 0 σ H)
    (hs : ∀ i σ H, i < n → Pv i σ H → g (.int (lo + i)) σ H fun σ2 H2 => tb { D with nx := Pv (i + 1), ct := Pv (i + 1), bk := D.nx } σ2 H2) (hd : ∀ σ H, Pv n σ H → D.nx σ H) :
    ∃ W : Nat → Nat → L2.St → Hp → Prop, (∃ m, W 0 m σ H) ∧ ∀ i m σ H, W i m σ H →
      ((Itr lo n).stop i H ∧ D.nx σ H) ∨ ((Itr lo n).go i H ∧ ∃ N : L2.St → Hp → Prop, (∀ σ' H', N σ' H' → ∃ m', m' < m ∧ W (i + 1) m' σ' H') ∧ ∀ x H', (Itr lo n).yld i H x H' → g x σ H' fun σ2 H2 => tb { D with nx := N, ct := N, bk := D.nx } σ2 H2) := by
  refine for_by n Pv h0 (fun i σ H hi p => ⟨hi, ?_⟩) (fun σ H p => ⟨Nat.le_refl _, hd σ H p⟩)
  rintro x H2 ⟨rfl, rfl⟩
  exact hs _ _ _ hi p
theorem lcR {lo : Int} {g : TG} {tt : TT} {te : TE} {vs : List Nat} {σ : L2.St} {H1 : Hp} {D : Addr} {Qd : Hp → Prop} (n : Nat) (Pv : Nat → Hp → Prop) (h0 : Pv 0 (upd H1 D (.lst [])))
    (hs : ∀ i H, i < n → Pv i H → g (.int (lo + i)) (wipe σ vs) H fun σ2 H2 => wipe σ2 vs = wipe σ vs ∧ tt σ2 H2 fun b H3 =>
      if b = true then te σ2 H3 fun y H4 => ∃ acc, H4 D = some (.lst acc) ∧ acc.length < sizeLine ∧ Pv (i + 1) (upd H4 D (.lst (acc ++ [y]))) else Pv (i + 1) H3) (hd : ∀ H, Pv n H → Qd H) :
    ∃ W : Nat → Nat → Hp → Prop, (∃ m, W 0 m (upd H1 D (.lst []))) ∧ ∀ i m H, W i m H →
      ((Itr lo n).stop i H ∧ Qd H) ∨ ((Itr lo n).go i H ∧ ∃ Nx : Hp → Prop, (∀ H', Nx H' → ∃ m', m' < m ∧ W (i + 1) m' H') ∧ ∀ x H', (Itr lo n).yld i H x H' → g x (wipe σ vs) H' fun σ2 H2 => wipe σ2 vs = wipe σ vs ∧ tt σ2 H2 fun b H3 =>
        if b = true then te σ2 H3 fun y H4 => ∃ acc, H4 D = some (.lst acc) ∧ acc.length < sizeLine ∧ Nx (upd H4 D (.lst (acc ++ [y]))) else Nx H3) := by
  refine lc_by n Pv h0 (fun i H hi p => ⟨hi, ?_⟩) (fun H p => ⟨Nat.le_refl _, hd H p⟩)
  rintro x H2 ⟨rfl, rfl⟩
  exact hs _ _ hi p
/-! ### lists of tuples of numbers -/
theorem same_sql {K : PySem.W.Frag} {H H' : Hp} {a : Addr} {xs : List V} (e : Same H H') (h : SqL K H a xs) : SqL K H' a xs := by
  rcases h with (h | ⟨o, h⟩) | h
  · exact .inl (.inl (e _ _ h))
  · exact .inl (.inr ⟨o, e _ _ h⟩)
  · exact .inr h
theorem sqt_keep {K : PySem.W.Frag} {r : Addr} {H H' : Hp} {a : Addr} {xs ys : List V} (e : SameB r H H') (hr : H r = some (.lst ys)) (h : SqT K H a xs) : SqT K H' a xs := by
  rcases h with (h | ⟨o, h⟩) | h
  · exact .inl (.inl (e _ _ (fun z => by rw [z, hr] at h; cases h) h))
  · exact .inl (.inr ⟨o, e _ _ (fun z => by rw [z, hr] at h; cases h) h⟩)
  · exact .inr h
theorem sameB_upd {r : Addr} {H : Hp} {o : HO} : SameB r H (upd H r o) := fun b x n e => by
  rw [upd_ne n]
  exact e
abbrev Tl := List (Addr × List Int)
abbrev vals (rs : Tl) : List (List Int) := rs.map (·.2)
abbrev fRef : Addr × List Int → V := fun t => V.ref t.1
/-- its tuples -/
def TlE (K : PySem.W.Frag) (H : Hp) (rs : Tl) : Prop := ∀ t ∈ rs, SqT K H t.1 (t.2.map V.int)
structure VL (K : PySem.W.Frag) (H : Hp) (l : Addr) (rs : Tl) : Prop where
  at_ : H l = some (.lst (rs.map fRef))
  el : TlE K H rs
section
variable {K : PySem.W.Frag} {H H' : Hp} {l : Addr} {rs : Tl}
theorem TlE.same (h : TlE K H rs) (s : Same H H') : TlE K H' rs := fun t ht => same_sqt s (h t ht)
theorem TlE.keep {r : Addr} {ys : List V} (h : TlE K H rs) (s : SameB r H H') (hr : H r = some (.lst ys)) : TlE K H' rs := fun t ht => sqt_keep s hr (h t ht)
theorem TlE.snoc {a : Addr} {v : List Int} (h : TlE K H rs) (e : SqT K H a (v.map V.int)) : TlE K H (rs ++ [(a, v)]) := fun t ht => by
  rcases List.mem_append.mp ht with ht | ht
  · exact h t ht
  · rw [List.mem_singleton.mp ht]
    exact e
theorem TlE.app {ts : Tl} (h : TlE K H rs) (e : TlE K H ts) : TlE K H (rs ++ ts) := fun t ht => by
  rcases List.mem_append.mp ht with ht | ht
  · exact h t ht
  · exact e t ht
theorem VL.same (h : VL K H l rs) (s : Same H H') : VL K H' l rs := ⟨s _ _ h.at_, h.el.same s⟩
theorem VL.keep {r : Addr} {ys : List V} (h : VL K H l rs) (s : SameB r H H') (hr : H r = some (.lst ys)) (n : l ≠ r) : VL K H' l rs := ⟨s _ _ n h.at_, h.el.keep s hr⟩
theorem VL.sq (h : VL K H l rs) : SqL K H l (rs.map fRef) := .inl (.inl h.at_)
/-- one more at the end -/
theorem VL.snoc {a : Addr} {v : List Int} (h : VL K H l rs) (e : SqT K H a (v.map V.int)) : VL K (upd H l (.lst (rs.map fRef ++ [.ref a]))) l (rs ++ [(a, v)]) := by
  refine ⟨?_, ?_⟩
  · rw [upd_same, List.map_append]
    rfl
  · exact (h.el.keep sameB_upd h.at_).snoc (sqt_keep sameB_upd h.at_ e)
theorem VL.app {ts : Tl} (h : VL K H l rs) (e : TlE K H ts) : VL K (upd H l (.lst (rs.map fRef ++ ts.map fRef))) l (rs ++ ts) := by
  refine ⟨?_, ?_⟩
  · rw [upd_same, List.map_append]
  · exact (h.el.keep sameB_upd h.at_).app (e.keep sameB_upd h.at_)
end
theorem vals_len {rs : Tl} : (vals rs).length = rs.length := List.length_map _
end K14
/-! D15 -/
set_option Elab.async false
set_option linter.all false
set_option maxRecDepth 100000
set_option maxHeartbeats 4000000
/-! D15: the law's choices, its numbers to draw from, powers, sums of vectors, all vectors. -/
namespace K14
open PySem PySem.Spec PyProof.Rows L2
section
variable {P : Program} {w : World} {K : PySem.W.Frag} {mg : Str → Option Value} {base : Heap} {CS CP AM : Addr}
theorem atI_nat {xs : List V} {i : Nat} {v : V} (h : xs[i]? = some v) : atI xs (i : Int) = some v := by
  have hl : i < xs.length := (List.getElem?_eq_some_iff.mp h).1
  unfold atI ixN
  rw [if_pos (by omega), if_pos (by omega)]
  show xs[(i : Int).toNat]? = some v
  rw [Int.toNat_natCast]
  exact h
def spChoice (K : PySem.W.Frag) : Sp := fun vs H Q _ => ∃ (r l : Addr) (xs : List V), vs = [.ref r, .ref l] ∧ RngAt H r ∧ SqL K H l xs ∧ l ≠ r ∧ xs ≠ [] ∧ xs.length ≤ 1000 ∧ ∀ H' x, x ∈ xs → SameB r H H' → RngAt H' r → Q x H'
theorem sql_keep {K : PySem.W.Frag} {r : Addr} {H H' : Hp} {a : Addr} {xs : List V} (e : SameB r H H') (n : a ≠ r) (h : SqL K H a xs) : SqL K H' a xs := by
  rcases h with (h | ⟨o, h⟩) | h
  · exact .inl (.inl (e _ _ n h))
  · exact .inl (.inr ⟨o, e _ _ n h⟩)
  · exact .inr h
theorem ok_law_choice (T : Tx K mg CS CP AM) : GN P w K mg base 2 "_law_choice" (spChoice K) := by
  refine Fd.gn T.f_law_choice sc_law_choice (fun vs H Q E h => ?_) (fun _ _ _ _ _ _ us hl => match us, hl with | [_, _], _ => rfl) (fun f cdv A outer s H vs Q E hr h => ?_)
  · obtain ⟨r, l, xs, rfl, _⟩ := h
    rfl
  · obtain ⟨r, l, xs, rfl, hR, hl, hn, hne, hlen, k⟩ := h
    refine ⟨_, (pss_one (ps_ret (pe_ix ix_list (pv 1) (pe_g (ok_law_draw T) hr (by rfl) (pa_cons (pv 0) (pa_cons (pe_callB call_len_seq (by rfl) T.n_len bo_len (pa_cons (pv 1) pa_nil)) pa_nil))) (fun _ _ => rfl)))), ?_⟩
    have hpos : 0 < xs.length := List.length_pos_iff.mpr hne
    refine ⟨_, rfl, _, rfl, _, rfl, l, xs, rfl, .inl hl, r, _, rfl, by omega, by omega, hR, fun H' d h0 h1 s1 hR' => ?_⟩
    obtain ⟨i, rfl⟩ := Int.eq_ofNat_of_zero_le h0
    have hi : i < xs.length := by omega
    have hx : xs[i]? = some xs[i] := List.getElem?_eq_getElem hi
    exact ⟨l, xs, _, _, rfl, rfl, sql_keep s1 hn hl, atI_nat hx, k _ _ (List.getElem_mem hi) s1 hR'⟩
def spRng (K : PySem.W.Frag) : Sp := fun vs H Q _ => ∃ (l : Addr) (ns : List Int) (j : Int), vs = [.ref l, .int j] ∧ SqL K H l (ns.map V.int) ∧ 0 ≤ j ∧ j ≤ 2 ∧ ∀ H' r, Same H H' → H r = none → RngAt H' r → Q (.ref r) H'
theorem ok_law_rng (T : Tx K mg CS CP AM) : GN P w K mg base 1 "_law_rng" (spRng K) := by
  refine Fd.gn T.f_law_rng sc_law_rng (fun vs H Q E h => ?_) (fun _ _ _ _ _ _ us hl => match us, hl with | [_, _], _ => rfl) (fun f cdv A outer s H vs Q E hr h => ?_)
  · obtain ⟨l, ns, j, rfl, _⟩ := h
    rfl
  · obtain ⟨l, ns, j, rfl, hl, h0, h1, k⟩ := h
    refine ⟨_, (pss_cons (ps_set (i := 2) sc_law_rng.nd rfl (Or.inl rfl) (pe_op op_add (pe_op op_mul pe_int (pv 1)) pe_int))
      (pss_cons (ps_if (pt_cmpR op_lt (pv 1) (pe_callB call_len_seq (by rfl) T.n_len bo_len (pa_cons (pv 0) pa_nil)) (nomark _)) (pss_one (ps_set (i := 2) sc_law_rng.nd rfl (Or.inl rfl) (pe_ix ix_list (pv 0) (pv 1) (fun _ _ => rfl)))) pss_nil)
      (pss_one (ps_ret (pe_lst (pa_cons (pe_callB (call_max2 rfl) (by rfl) T.n_max bo_max (pa_cons pe_int (pa_cons (pe_op op_sub (pe_callB call_abs (by rfl) T.n_abs bo_abs (pa_cons (pv 2) pa_nil)) (pe_op op_pow pe_int pe_int)) pa_nil))) (pa_cons (pe_op op_add (pe_op op_mod (pe_op op_mul (pe_callTy call_int1 (by rfl) T.n_int bo_int (pa_cons (pe_op op_add (pe_op op_mod (pe_callTy call_int1 (by rfl) T.n_int bo_int (pa_cons (pe_callB call_abs (by rfl) T.n_abs bo_abs (pa_cons (pv 2) pa_nil)) pa_nil)) pe_int) pe_int) pa_nil)) (pe_op op_pow (pe_op op_add (pe_op op_mul pe_int (pv 1)) pe_int) pe_int)) pe_int) pe_int) pa_nil))))))), ?_⟩
    refine ⟨_, rfl, 13, j, rfl, rfl, .inl ⟨by omega, by omega⟩, _, 7, rfl, rfl, ?_⟩
    obtain ⟨i, rfl⟩ := Int.eq_ofNat_of_zero_le h0
    refine ⟨_, rfl, _, rfl, l, _, rfl, .inl hl, _, _, rfl, rfl, _, rfl, ite2 (fun h2 => ?_) (fun h2 => ?_)⟩
    · have hi : i < ns.length := by
        have := of_decide_eq_true h2
        rw [List.length_map] at this
        omega
      refine ⟨_, rfl, _, rfl, l, _, _, .int ns[i], rfl, rfl, hl, atI_nat (at_map (List.getElem?_eq_getElem hi)), ?_⟩
      generalize ns[i] = c
      have e1 := Int.emod_nonneg (if c < 0 then -c else c) (show (2147483543 : Int) ≠ 0 by omega)
      have e2 := Int.emod_lt_of_pos (if c < 0 then -c else c) (show (0 : Int) < 2147483543 by omega)
      refine ⟨_, rfl, c, rfl, 10, 18, rfl, rfl, ⟨by omega, by omega, by decide⟩, _, _, rfl, rfl, _, _, rfl, _, rfl, c, rfl, .inl ⟨_, rfl, _, 2147483543, rfl, rfl, by omega, _, 1, rfl, rfl, .inl ⟨_, rfl, ?_⟩⟩⟩
      generalize (if c < 0 then -c else c) % 2147483543 = y at e1 e2 ⊢
      refine ⟨_, rfl, 2, (i : Int), rfl, rfl, .inl ⟨by omega, by omega⟩, _, 5, rfl, rfl, _, 3, rfl, rfl, ⟨by omega, by omega, by omega⟩, _, _, rfl, rfl, .inl ⟨by omega, by omega⟩, _, 2147483497, rfl, rfl, by omega, _, 1, rfl, rfl, (by show 2 ≤ sizeLine; decide), fun p hp => ?_⟩
      generalize (y + 1) * (2 * (i : Int) + 5) ^ (3 : Int).toNat = z
      have z1 := Int.emod_nonneg z (show (2147483497 : Int) ≠ 0 by omega)
      have z2 := Int.emod_lt_of_pos z (show (0 : Int) < 2147483497 by omega)
      exact k _ p (same_new hp) hp ⟨_, _, upd_same, by split <;> omega, by omega, by omega⟩
    · obtain ⟨c, hc⟩ : ∃ c, c = 13 * (i : Int) + 7 := ⟨_, rfl⟩
      rw [show (fun i j => V.int (i + j)) (13 * (i : Int)) 7 = V.int c from by rw [hc]]
      have e1 := Int.emod_nonneg (if c < 0 then -c else c) (show (2147483543 : Int) ≠ 0 by omega)
      have e2 := Int.emod_lt_of_pos (if c < 0 then -c else c) (show (0 : Int) < 2147483543 by omega)
      refine ⟨_, rfl, c, rfl, 10, 18, rfl, rfl, ⟨by omega, by omega, by decide⟩, _, _, rfl, rfl, _, _, rfl, _, rfl, c, rfl, .inl ⟨_, rfl, _, 2147483543, rfl, rfl, by omega, _, 1, rfl, rfl, .inl ⟨_, rfl, ?_⟩⟩⟩
      generalize (if c < 0 then -c else c) % 2147483543 = y at e1 e2 ⊢
      refine ⟨_, rfl, 2, (i : Int), rfl, rfl, .inl ⟨by omega, by omega⟩, _, 5, rfl, rfl, _, 3, rfl, rfl, ⟨by omega, by omega, by omega⟩, _, _, rfl, rfl, .inl ⟨by omega, by omega⟩, _, 2147483497, rfl, rfl, by omega, _, 1, rfl, rfl, (by show 2 ≤ sizeLine; decide), fun p hp => ?_⟩
      generalize (y + 1) * (2 * (i : Int) + 5) ^ (3 : Int).toNat = z
      have z1 := Int.emod_nonneg z (show (2147483497 : Int) ≠ 0 by omega)
      have z2 := Int.emod_lt_of_pos z (show (0 : Int) < 2147483497 by omega)
      exact k _ p (same_new hp) hp ⟨_, _, upd_same, by split <;> omega, by omega, by omega⟩
end
end K14
/-! D16 -/
set_option Elab.async false
set_option linter.all false
set_option maxRecDepth 100000
set_option maxHeartbeats 4000000
/-! D16: powers, sums of vectors, all vectors. -/
namespace K14
open PySem PySem.Spec PyProof.Rows L2
section
variable {P : Program} {w : World} {K : PySem.W.Frag} {mg : Str → Option Value} {base : Heap} {CS CP AM : Addr}
theorem none_of {H H' : Hp} {p : Addr} (s : Same H H') (h : H' p = none) : H p = none := by
  cases e : H p with
  | none => rfl
  | some o =>
    rw [s _ _ e] at h
    cases h
def spPower : Sp := fun vs H Q _ => ∃ (q : Int) (n : Nat), vs = [.int q, .int n] ∧ 1 ≤ q ∧ q ≤ 5 ∧ n ≤ 10 ∧ Q (.int (q ^ n)) H
theorem ok_law_power (T : Tx K mg CS CP AM) : GN P w K mg base 1 "_law_power" spPower := by
  refine Fd.gn T.f_law_power sc_law_power (fun vs H Q E h => ?_) (fun _ _ _ _ _ _ us hl => match us, hl with | [_, _], _ => rfl) (fun f cdv A outer s H vs Q E hr h => ?_)
  · obtain ⟨q, n, rfl, _⟩ := h
    rfl
  · obtain ⟨q, n, rfl, h1, h2, h3, k⟩ := h
    refine ⟨_, (pss_cons (ps_set (i := 2) sc_law_power.nd rfl (Or.inl rfl) pe_int)
      (pss_cons (ps_for PassesOwn.never rfl (pi_range1 (by rfl) T.n_range (pa_cons (pv 1) pa_nil)) (pg_name (i := 3) sc_law_power.nd rfl (Or.inl rfl) (Or.inr rfl)) (pss_one (ps_set (i := 2) sc_law_power.nd rfl (Or.inl rfl) (pe_op op_mul (pv 2) (pv 0)))))
      (pss_one (ps_ret (pv 2))))), ?_⟩
    refine ⟨_, rfl, _, rfl, by omega, by omega, ?_⟩
    refine forR n (fun i σ H' => ∃ v, σ = [some (.int q), some (.int n), some (.int (q ^ i)), v] ∧ H' = H) ⟨none, by rw [Int.pow_zero]; rfl, rfl⟩ ?_ ?_
    · rintro i σ H2 hi ⟨v, rfl, rfl⟩
      refine ⟨_, rfl, _, rfl, _, q, rfl, rfl, .inr ⟨by omega, by omega⟩, ⟨some (.int (0 + (i : Int))), ?_, rfl⟩⟩
      rw [Int.pow_succ]
      rfl
    · rintro σ H2 ⟨v, rfl, rfl⟩
      exact ⟨_, rfl, k⟩
abbrev plusV (b q : Int) (v u : List Int) : List Int := List.zipWith (fun x y => (x + b * y) % q) v u
def spPlus (K : PySem.W.Frag) : Sp := fun vs H Q _ => ∃ (a a2 : Addr) (v u : List Int) (b q : Int), vs = [.ref a, .ref a2, .int b, .int q] ∧ SqT K H a (v.map V.int) ∧ SqT K H a2 (u.map V.int) ∧ v.length = u.length ∧ v.length ≤ 1000 ∧ -5 ≤ b ∧ b ≤ 5 ∧ 0 < q ∧
  ∀ H' p, Same H H' → H p = none → H' p = some (.tup ((plusV b q v u).map V.int)) → Q (.ref p) H'
theorem ok_law_plus (T : Tx K mg CS CP AM) : GN P w K mg base 1 "_law_plus" (spPlus K) := by
  refine Fd.gn T.f_law_plus sc_law_plus (fun vs H Q E h => ?_) (fun _ _ _ _ _ _ us hl => match us, hl with | [_, _, _, _], _ => rfl) (fun f cdv A outer s H vs Q E hr h => ?_)
  · obtain ⟨a, a2, v, u, b, q, rfl, _⟩ := h
    rfl
  · obtain ⟨a, a2, v, u, b, q, rfl, ha, ha2, hl, hl2, h1, h2, h3, k⟩ := h
    refine ⟨_, (pss_one (ps_ret (pe_callTy call_tuple_of (by rfl) T.n_tuple bo_tuple (pa_cons (pe_lc (own := [("_law_one", 4), ("_law_two", 5)]) rfl sc_law_plus.nd (RZ.pi_zipA (by rfl) T.n_zip (pa_cons (pv 0) (pa_cons (pv 1) pa_nil))) (blkOk_by (N := N_law_plus) (sc := defScope st_law_plus) (by decide +kernel)) (fun _ _ _ _ _ => (pg_tup' (K := K) 2 (pgs_cons (pg_name (i := 4) sc_law_plus.nd rfl (Or.inl rfl) (Or.inr rfl)) (pgs_cons (pg_name (i := 5) sc_law_plus.nd rfl (Or.inl rfl) (Or.inr rfl)) pgs_nil)))) (fun _ _ _ _ _ => pts_nil) (fun _ _ _ _ _ => (pe_op op_mod (pe_callTy call_int1 (by rfl) T.n_int bo_int (pa_cons (pe_op op_add (pv 4) (pe_op op_mul (pv 2) (pv 5))) pa_nil)) (pv 3)))) pa_nil)))), ?_⟩
    refine ⟨_, rfl, _, rfl, a, a2, _, _, rfl, .inr ⟨ha, ha2, fun E hE => ?_⟩⟩
    have hpl : (plusV b q v u).length = v.length := by rw [List.length_zipWith]; omega
    refine lc_by v.length (fun i H' => Same H H' ∧ H' E = some (.lst (((plusV b q v u).take i).map V.int))) ⟨same_new hE, by rw [upd_same]; rfl⟩ ?_ ?_
    · rintro i H2 hi ⟨s2, e2⟩
      have g1 : (v.map V.int)[i]? = some (.int v[i]) := at_map (List.getElem?_eq_getElem hi)
      have hi2 : i < u.length := by omega
      have g2 : (u.map V.int)[i]? = some (.int u[i]) := at_map (List.getElem?_eq_getElem hi2)
      have s1 := same_sqt s2 ha
      have s3 := same_sqt s2 ha2
      refine ⟨⟨_, _, _, _, s1, s3, g1, g2⟩, ?_⟩
      rintro x H3 ⟨T', x, y, rfl, hT, rfl, hx, hy⟩
      have ex := hx _ s1
      rw [g1] at ex
      obtain rfl := Option.some.inj ex
      have ey := hy _ s3
      rw [g2] at ey
      obtain rfl := Option.some.inj ey
      refine ⟨T', _, rfl, .inl (.inl upd_same), rfl, _, _, rfl, _, _, rfl, rfl, rfl, ?_⟩
      refine ⟨_, rfl, _, rfl, _, rfl, b, _, rfl, rfl, .inl ⟨by omega, by omega⟩, _, _, rfl, rfl, .inl ⟨_, rfl, _, rfl, _, q, rfl, rfl, h3, _, same_new hT _ _ e2, ?_, same_mut (same_add s2 hT) hE, ?_⟩⟩
      · rw [List.length_map, List.length_take]
        exact small1000 (by omega)
      · have hi3 : i < (plusV b q v u).length := by omega
        rw [upd_same, take_snoc (List.getElem?_eq_getElem hi3), List.map_append, List.getElem_zipWith]
        rfl
    · rintro H2 ⟨s2, e2⟩
      refine ⟨⟨_, _, same_sqt s2 ha, same_sqt s2 ha2, .inl (by rw [List.length_map]; exact Nat.le_refl _)⟩, ?_⟩
      rw [← hpl, List.take_length] at e2
      refine ⟨E, _, rfl, .inl ⟨.inl (.inl e2), fun p hp => k _ p (same_add s2 hp) ?_ upd_same⟩⟩
      exact none_of s2 hp
def longerV (q : Int) (vs : List (List Int)) : List (List Int) := vs.flatMap fun v => (List.range q.toNat).map fun d : Nat => v ++ [(d : Int)]
def spLonger (K : PySem.W.Frag) : Sp := fun vs H Q _ => ∃ (l : Addr) (rs : Tl) (q : Int), vs = [.ref l, .int q] ∧ VL K H l rs ∧ Qok q ∧ rs.length ≤ 200 ∧ (∀ t ∈ rs, t.2.length ≤ 20) ∧
  ∀ H' p rs', Same H H' → H p = none → VL K H' p rs' → vals rs' = longerV q (vals rs) → Q (.ref p) H'
theorem Qok.le {q : Int} (h : Qok q) : 2 ≤ q ∧ q ≤ 5 ∧ (q.toNat : Int) = q := by
  rcases h with h | h | h <;> subst h <;> decide
theorem vl_at {rs : Tl} {i : Nat} {t : Addr × List Int} (h : rs[i]? = some t) : (vals rs)[i]? = some t.2 := by
  show (rs.map (·.2))[i]? = _
  rw [List.getElem?_map, h]
  rfl
theorem longerV_snoc {q : Int} {vs : List (List Int)} {i : Nat} {v : List Int} (h : vs[i]? = some v) : longerV q (vs.take (i + 1)) = longerV q (vs.take i) ++ (List.range q.toNat).map fun d : Nat => v ++ [(d : Int)] := by
  unfold longerV
  rw [take_snoc h, List.flatMap_append]
  simp
theorem flatMap_len {α β : Type} {f : α → List β} {k : Nat} : ∀ {l : List α}, (∀ x ∈ l, (f x).length = k) → (l.flatMap f).length = l.length * k
  | [], _ => by simp
  | a :: l, h => by
    rw [List.flatMap_cons, List.length_append, flatMap_len fun x hx => h x (List.mem_cons_of_mem _ hx), h a List.mem_cons_self, List.length_cons, Nat.add_mul, Nat.one_mul, Nat.add_comm]
theorem longerV_len {q : Int} {vs : List (List Int)} : (longerV q vs).length = vs.length * q.toNat := flatMap_len fun x _ => by rw [List.length_map, List.length_range]
theorem take_le {α : Type} {l : List α} {i : Nat} : (l.take i).length ≤ l.length := by
  rw [List.length_take]
  omega
theorem ok_law_longer (T : Tx K mg CS CP AM) : GN P w K mg base 1 "_law_longer" (spLonger K) := by
  refine Fd.gn T.f_law_longer sc_law_longer (fun vs H Q E h => ?_) (fun _ _ _ _ _ _ us hl => match us, hl with | [_, _], _ => rfl) (fun f cdv A outer s H vs Q E hr h => ?_)
  · obtain ⟨l, rs, q, rfl, _⟩ := h
    rfl
  · obtain ⟨l, rs, q, rfl, hV, hq, hl, hl2, k⟩ := h
    obtain ⟨q2, q5, qn⟩ := hq.le
    refine ⟨_, (pss_cons (ps_set (i := 2) sc_law_longer.nd rfl (Or.inl rfl) (pe_lst pa_nil))
      (pss_cons (ps_for PassesOwn.never rfl (pi_list (pv 0)) (pg_name (i := 3) sc_law_longer.nd rfl (Or.inr rfl) (Or.inl rfl)) (pss_one (ps_expr (pe_bm PySem.F.plainAttrs_list PySem.F.slot_list_extend PySem.F.type_list_extend mt_extend (pv 2) (pa_cons (pe_lc (own := [("_law_number", 4)]) rfl sc_law_longer.nd (pi_range1 (by rfl) T.n_range (pa_cons (pv 1) pa_nil)) (blkOk_by (N := N_law_longer) (sc := defScope st_law_longer) (by decide +kernel)) (fun _ _ _ _ _ => (pg_name (i := 4) sc_law_longer.nd rfl (Or.inl rfl) (Or.inr rfl))) (fun _ _ _ _ _ => pts_nil) (fun _ _ _ _ _ => (pe_op (op_catA' (K := K)) (pv 3) (pe_tup (pa_cons (pv 4) pa_nil))))) pa_nil)))))
      (pss_one (ps_ret (pv 2))))), ?_⟩
    refine ⟨by decide, fun F hF => ?_⟩
    refine ⟨_, rfl, l, rfl, ⟨_, (hV.same (same_new hF)).sq⟩, ?_⟩
    refine forL rs fRef (fun i σ H' => ∃ v3 v4 rs', σ = [some (.ref l), some (.int q), some (.ref F), v3, v4] ∧ Same H H' ∧ VL K H' F rs' ∧ vals rs' = longerV q ((vals rs).take i)) ⟨none, none, [], rfl, same_new hF, ⟨upd_same, fun t ht => nomatch ht⟩, rfl⟩ (fun i σ H' p => ?_) ?_ ?_
    · obtain ⟨v3, v4, rs', _, s2, _⟩ := p
      exact (hV.same s2).sq
    · rintro i t σ H2 ht ⟨v3, v4, rs', rfl, s2, V2, e2⟩
      have htm := List.mem_of_getElem? ht
      refine ⟨_, rfl, .inl ⟨rfl, _, V2.sq⟩, ?_⟩
      refine ⟨_, rfl, q, rfl, by omega, by omega, fun E hE => ?_⟩
      refine lcR q.toNat (fun j H' => ∃ es, Same H2 H' ∧ VL K H' E es ∧ vals es = (List.range j).map fun d : Nat => t.2 ++ [(d : Int)]) ⟨[], same_new hE, ⟨upd_same, fun t ht => nomatch ht⟩, rfl⟩ ?_ ?_
      · rintro j H3 hj ⟨es, s3, V3, e3⟩
        have ht3 := same_sqt s3 (same_sqt s2 (hV.el t htm))
        have hv : (t.2.map V.int).length ≤ 20 := by
          rw [List.length_map]
          exact hl2 t htm
        refine ⟨rfl, _, rfl, _, rfl, (by show 1 ≤ sizeLine; decide), fun d hd => ?_⟩
        have done : ∀ (p : Addr) (H4 : Hp), Same H3 H4 → SqT K H4 p ((t.2 ++ [(j : Int)]).map V.int) → ∃ acc, H4 E = some (.lst acc) ∧ acc.length < sizeLine ∧ ∃ es, Same H2 (upd H4 E (.lst (acc ++ [.ref p]))) ∧ VL K (upd H4 E (.lst (acc ++ [.ref p]))) E es ∧ vals es = (List.range (j + 1)).map fun d : Nat => t.2 ++ [(d : Int)] := fun p H4 s4 hp => by
          have V4 := V3.same s4
          refine ⟨_, V4.at_, ?_, es ++ [(p, t.2 ++ [(j : Int)])], same_mut (s3.trans s4) hE, V4.snoc hp, ?_⟩
          · rw [List.length_map]
            have : es.length = j := by
              have := congrArg List.length e3
              rw [List.length_map, List.length_map, List.length_range] at this
              exact this
            exact small1000 (by omega)
          · show (es ++ _).map _ = _
            rw [List.map_append, List.range_succ, List.map_append]
            exact congrArg (· ++ _) e3
        refine ⟨t.1, d, _, _, rfl, rfl, same_sqt (same_new hd) ht3, .inl (.inl upd_same), ?_, fun e => ?_, fun _ e => (by cases e), fun _ _ p hp => ?_⟩
        · have : sizeLine ≥ 1000 := by decide
          show (t.2.map V.int).length + 1 ≤ sizeLine
          omega
        · refine done d _ (same_new hd) (.inl (.inl ?_))
          rw [List.map_append, e, upd_same, Int.zero_add]
          rfl
        · refine done p _ ((same_new hd).trans (same_new hp)) (.inl (.inl ?_))
          rw [List.map_append, upd_same, Int.zero_add]
          rfl
      · rintro H3 ⟨es, s3, V3, e3⟩
        have V2' := V2.same s3
        have l1 : rs'.length ≤ 1000 := by
          have := congrArg List.length e2
          rw [vals_len, longerV_len, List.length_take, vals_len] at this
          have h5 : q.toNat ≤ 5 := by omega
          have : rs'.length ≤ 200 * 5 := by
            rw [this]
            exact Nat.mul_le_mul (by omega) h5
          omega
        have l2 : es.length ≤ 5 := by
          have := congrArg List.length e3
          rw [vals_len, List.length_map, List.length_range] at this
          omega
        refine ⟨F, E, _, _, rfl, rfl, V2'.at_, V3.at_, ?_, ?_⟩
        · rw [List.length_map, List.length_map]
          have : sizeLine ≥ 2000 := by decide
          omega
        · refine ⟨_, _, rs' ++ es, rfl, same_mut (s2.trans s3) hF, V2'.app V3.el, ?_⟩
          show (rs' ++ es).map _ = _
          rw [longerV_snoc (vl_at ht), List.map_append]
          exact congr (congrArg _ e2) e3
    · rintro σ H2 ⟨v3, v4, rs', rfl, s2, V2, e2⟩
      rw [← vals_len, List.take_length] at e2
      exact ⟨_, rfl, k _ F rs' s2 hF V2 e2⟩
end
end K14
/-! D17 -/
set_option Elab.async false
set_option linter.all false
set_option maxRecDepth 100000
set_option maxHeartbeats 4000000
/-! D17: all vectors, all sums of given vectors. -/
namespace K14
open PySem PySem.Spec PyProof.Rows L2
def allV (q : Int) : Nat → List (List Int)
  | 0 => [[]]
  | n + 1 => longerV q (allV q n)
theorem allV_len (q : Int) : ∀ n, (allV q n).length = q.toNat ^ n
  | 0 => by rw [Nat.pow_zero]; rfl
  | n + 1 => by rw [allV, longerV_len, allV_len q n, Nat.pow_succ]
theorem longerV_mem {q : Int} {vs : List (List Int)} {x : List Int} : x ∈ longerV q vs ↔ ∃ v ∈ vs, ∃ d : Nat, d < q.toNat ∧ x = v ++ [(d : Int)] := by
  unfold longerV
  simp only [List.mem_flatMap, List.mem_map, List.mem_range]
  constructor
  · rintro ⟨v, h1, d, h2, rfl⟩
    exact ⟨v, h1, d, h2, rfl⟩
  · rintro ⟨v, h1, d, h2, rfl⟩
    exact ⟨v, h1, d, h2, rfl⟩
theorem allV_vlen {q : Int} : ∀ {n : Nat} {v : List Int}, v ∈ allV q n → v.length = n
  | 0, v, h => by
    rw [List.mem_singleton.mp h]
    rfl
  | n + 1, v, h => by
    obtain ⟨u, hu, d, _, rfl⟩ := longerV_mem.mp h
    rw [List.length_append, allV_vlen hu]
    rfl
/-- how many names a modulus allows -/
def Qn (q : Int) (n : Nat) : Prop := Qok q ∧ 1 ≤ n ∧ q.toNat ^ (n + 1) ≤ 125 ∧ n ≤ 5
theorem Qn.pow {q : Int} {n : Nat} (h : Qn q n) {k : Nat} (hk : k ≤ n + 1) : q.toNat ^ k ≤ 125 := by
  obtain ⟨h1, h2, h3, h4⟩ := h
  have : q.toNat ^ k ≤ q.toNat ^ (n + 1) := Nat.pow_le_pow_right (by have := h1.le; omega) hk
  omega
section
variable {P : Program} {w : World} {K : PySem.W.Frag} {mg : Str → Option Value} {base : Heap} {CS CP AM : Addr}
def spAll (K : PySem.W.Frag) : Sp := fun vs H Q _ => ∃ (n : Nat) (q : Int), vs = [.int n, .int q] ∧ Qn q n ∧ ∀ H' p rs, Same H H' → H p = none → VL K H' p rs → vals rs = allV q (n + 1) → Q (.ref p) H'
theorem ok_law_all (T : Tx K mg CS CP AM) : GN P w K mg base 2 "_law_all" (spAll K) := by
  refine Fd.gn T.f_law_all sc_law_all (fun vs H Q E h => ?_) (fun _ _ _ _ _ _ us hl => match us, hl with | [_, _], _ => rfl) (fun f cdv A outer s H vs Q E hr h => ?_)
  · obtain ⟨n, q, rfl, _⟩ := h
    rfl
  · obtain ⟨n, q, rfl, hq, k⟩ := h
    refine ⟨_, (pss_cons (ps_set (i := 2) sc_law_all.nd rfl (Or.inl rfl) (pe_lst (pa_cons (pe_tup pa_nil) pa_nil)))
      (pss_cons (ps_for PassesOwn.never rfl (pi_range1 (by rfl) T.n_range (pa_cons (pe_op op_add (pv 0) pe_int) pa_nil)) (pg_name (i := 3) sc_law_all.nd rfl (Or.inl rfl) (Or.inr rfl)) (pss_one (ps_set (i := 2) sc_law_all.nd rfl (Or.inl rfl) (pe_g (ok_law_longer T) hr (by rfl) (pa_cons (pv 2) (pa_cons (pv 1) pa_nil))))))
      (pss_one (ps_ret (pv 2))))), ?_⟩
    refine ⟨Nat.zero_le _, fun d hd => ⟨(by show 1 ≤ sizeLine; decide), fun F hF => ?_⟩⟩
    have hn5 := hq.2.2.2
    refine ⟨_, rfl, _, _, rfl, rfl, _, rfl, by omega, by omega, ?_⟩
    have s1 := (same_new (o := .tup []) hd).trans (same_new (o := .lst [.ref d]) hF)
    have hF0 : H F = none := none_of (same_new hd) hF
    refine forR (((n : Int) + 1).toNat) (fun i σ H' => ∃ v3 p rs, σ = [some (.int n), some (.int q), some (.ref p), v3] ∧ Same H H' ∧ H p = none ∧ VL K H' p rs ∧ vals rs = allV q i) ⟨none, F, [(d, [])], rfl, s1, hF0, ⟨upd_same, fun t ht => ?_⟩, rfl⟩ ?_ ?_
    · rw [List.mem_singleton.mp ht]
      exact .inl (.inl (same_new hF _ _ upd_same))
    · rintro i σ H2 hi ⟨v3, p, rs, rfl, s2, hp, V2, e2⟩
      refine ⟨_, rfl, _, rfl, p, rs, q, rfl, V2, hq.1, ?_, fun t ht => ?_, fun H3 p2 rs2 s3 hp2 V3 e3 => ⟨some (.int (0 + (i : Int))), p2, rs2, rfl, s2.trans s3, none_of s2 hp2, V3, ?_⟩⟩
      · have := congrArg List.length e2
        rw [vals_len, allV_len] at this
        have := hq.pow (k := i) (by omega)
        omega
      · have : t.2 ∈ vals rs := List.mem_map_of_mem ht
        rw [e2] at this
        have := allV_vlen this
        omega
      · rw [e3, e2]
        rfl
    · rintro σ H2 ⟨v3, p, rs, rfl, s2, hp, V2, e2⟩
      exact ⟨_, rfl, k _ p rs s2 hp V2 e2⟩
/-- one more vector: what the law's loop does -/
def spanStep (q : Int) (vs : List (List Int)) (r : List Int) : List (List Int) := if r ∈ vs then vs else vs.flatMap fun v => (List.range q.toNat).map fun d : Nat => plusV d q v r
def spanV (q : Int) (n : Nat) (rows : List (List Int)) : List (List Int) := (rows ++ [List.replicate n 0 ++ [1]]).foldl (spanStep q) [List.replicate (n + 1) 0]
end
section
variable {X : Cx} {K : PySem.W.Frag}
/-- t * k, where it stands not said -/
def rRepB (K : PySem.W.Frag) : R2 := fun x y H Q => ∃ l k xs, x = .ref l ∧ y = .int k ∧ SqT K H l xs ∧ xs ≠ [] ∧ 1 ≤ k ∧ k ≤ 1000 ∧ xs.length ≤ 1000 ∧ ∀ p H', Same H H' → SqT K H' p (List.replicate k.toNat xs).flatten → Q (.ref p) H'
theorem op_repB (hK : X.K = K := by rfl) : OpR X (binaryOp .Mult) (rRepB K) := fun pins s σ H x y v u Q I rx ry h => by
  obtain ⟨l, k, xs, e1, e2, h1, h2, h3, h4, h5, q⟩ := h
  refine op_repA (K := K) hK pins s σ H x y v u Q I rx ry ⟨l, k, xs, e1, e2, h1, h2, h3, h4, h5, fun e => ?_, fun _ p hp => ?_⟩
  · refine q l H (fun _ _ h => h) ?_
    rw [e]
    show SqT K H l (List.replicate 1 xs).flatten
    simpa using h1
  · exact q p _ (same_new hp) (.inl (.inl upd_same))
/-- t + u, where it stands not said -/
def rCatB (K : PySem.W.Frag) : R2 := fun x y H Q => ∃ a b xs ys, x = .ref a ∧ y = .ref b ∧ SqT K H a xs ∧ SqT K H b ys ∧ xs.length + ys.length ≤ sizeLine ∧ ∀ p H', Same H H' → SqT K H' p (xs ++ ys) → Q (.ref p) H'
theorem op_catB (hK : X.K = K := by rfl) : OpR X (binaryOp .Add) (rCatB K) := fun pins s σ H x y v u Q I rx ry h => by
  obtain ⟨a, b, xs, ys, e1, e2, h1, h2, h3, q⟩ := h
  refine op_catA' (K := K) hK pins s σ H x y v u Q I rx ry ⟨a, b, xs, ys, e1, e2, h1, h2, h3, fun e => ?_, fun _ e => ?_, fun _ _ p hp => ?_⟩
  · exact q b H (fun _ _ h => h) (by rw [e]; exact h2)
  · exact q a H (fun _ _ h => h) (by rw [e, List.append_nil]; exact h1)
  · exact q p _ (same_new hp) (.inl (.inl upd_same))
end
theorem rep_flat {k : Nat} {x : Int} : (List.replicate k [V.int x]).flatten = (List.replicate k x).map V.int := by
  induction k with
  | zero => rfl
  | succ k ih => rw [List.replicate_succ, List.flatten_cons, ih]; rfl
theorem plus_len {b q : Int} {v u : List Int} {m : Nat} (h1 : v.length = m) (h2 : u.length = m) : (plusV b q v u).length = m := by
  rw [List.length_zipWith]
  omega
theorem tup_notin {v : List Int} {vs : List (List Int)} : (PySem.W.Tup.mk v ∉ vs.map PySem.W.Tup.mk) ↔ v ∉ vs := by
  constructor
  · intro h e
    exact h (List.mem_map_of_mem e)
  · intro h e
    obtain ⟨u, hu, e⟩ := List.mem_map.mp e
    injection e with e
    exact h (e ▸ hu)
section
variable {P : Program} {w : World} {K : PySem.W.Frag} {mg : Str → Option Value} {base : Heap} {CS CP AM : Addr}
theorem dp_tups {H : Hp} {rs : Tl} (h : TlE K H rs) : DpAll K H (rs.map fRef) ((vals rs).map PySem.W.Tup.mk |>.map PySem.W.Datum.toD) := by
  rw [show (vals rs).map PySem.W.Tup.mk = rs.map (fun t => PySem.W.Tup.mk t.2) from by rw [List.map_map]; rfl]
  exact dpAll_map fRef (fun t : Addr × List Int => PySem.W.Tup.mk t.2) rs fun t ht => hd_tup (h t ht)
def spSpan (K : PySem.W.Frag) : Sp := fun vs H Q _ => ∃ (l : Addr) (rs : Tl) (n : Nat) (q : Int), vs = [.ref l, .int n, .int q] ∧ Qn q n ∧ VL K H l rs ∧ rs.length ≤ 5 ∧ (∀ t ∈ rs, t.2.length = n + 1) ∧ ∀ H' p rs', Same H H' → H p = none → VL K H' p rs' → vals rs' = spanV q n (vals rs) → Q (.ref p) H'
theorem spanStep_len {q : Int} {vs : List (List Int)} {r : List Int} : (spanStep q vs r).length ≤ vs.length * (q.toNat + 1) := by
  unfold spanStep
  split
  · exact Nat.le_mul_of_pos_right _ (Nat.succ_pos _)
  · rw [flatMap_len (k := q.toNat) fun x _ => by rw [List.length_map, List.length_range]]
    exact Nat.mul_le_mul (Nat.le_refl _) (Nat.le_succ _)
theorem ok_law_span (T : Tx K mg CS CP AM) : GN P w K mg base 2 "_law_span" (spSpan K) := by
  refine Fd.gn T.f_law_span sc_law_span (fun vs H Q E h => ?_) (fun _ _ _ _ _ _ us hl => match us, hl with | [_, _, _], _ => rfl) (fun f cdv A outer s H vs Q E hr h => ?_)
  · obtain ⟨l, rs, n, q, rfl, _⟩ := h
    rfl
  · obtain ⟨l, rs, n, q, rfl, hq, hV, hlen, hrl, k⟩ := h
    have hu1 := hr.units
    have hsz : sizeLine ≥ 1000000 := by decide
    obtain ⟨q2, q5, qn⟩ := hq.1.le
    obtain ⟨_, hn1, _, hn5⟩ := hq
    refine ⟨_, (pss_cons (ps_set (i := 3) sc_law_span.nd rfl (Or.inl rfl) (pe_lst (pa_cons (pe_op op_repB (pe_tup (pa_cons pe_int pa_nil)) (pe_op op_add (pv 1) pe_int)) pa_nil)))
      (pss_cons (ps_for PassesOwn.never rfl (pi_list (pe_op op_cat (pv 0) (pe_lst (pa_cons (pe_op op_catB (pe_op op_repB (pe_tup (pa_cons pe_int pa_nil)) (pv 1)) (pe_tup (pa_cons pe_int pa_nil))) pa_nil)))) (pg_name (i := 4) sc_law_span.nd rfl (Or.inr rfl) (Or.inl rfl)) (pss_one (ps_if (pt_cmpR (op_notInT (PySem.W.Tup Int) hu1) (pv 4) (pv 3) rfl) (pss_cons (ps_set (i := 5) sc_law_span.nd rfl (Or.inl rfl) (pe_lst pa_nil))
      (pss_cons (ps_for PassesOwn.never rfl (pi_list (pv 3)) (pg_name (i := 6) sc_law_span.nd rfl (Or.inr rfl) (Or.inl rfl)) (pss_one (ps_expr (pe_bm PySem.F.plainAttrs_list PySem.F.slot_list_extend PySem.F.type_list_extend mt_extend (pv 5) (pa_cons (pe_lc (own := [("_law_by", 7)]) rfl sc_law_span.nd (pi_range1 (by rfl) T.n_range (pa_cons (pv 2) pa_nil)) (blkOk_by (N := N_law_span) (sc := defScope st_law_span) (by decide +kernel)) (fun _ _ _ _ _ => (pg_name (i := 7) sc_law_span.nd rfl (Or.inl rfl) (Or.inr rfl))) (fun _ _ _ _ _ => pts_nil) (fun _ _ _ _ _ => (pe_g (ok_law_plus T) hr (by rfl) (pa_cons (pv 6) (pa_cons (pv 4) (pa_cons (pv 7) (pa_cons (pv 2) pa_nil))))))) pa_nil)))))
      (pss_one (ps_set (i := 3) sc_law_span.nd rfl (Or.inl rfl) (pv 5))))) pss_nil)))
      (pss_one (ps_ret (pv 3))))), ?_⟩
    refine ⟨(by show 1 ≤ sizeLine; omega), fun d hd => ⟨_, rfl, _, _, rfl, rfl, d, _, _, rfl, rfl, .inl (.inl upd_same), (by simp), by omega, by omega, (by show 1 ≤ 1000; decide), fun a0 H1 s1 hq1 => ⟨(by show 1 ≤ sizeLine; omega), fun F hF => ?_⟩⟩⟩
    rw [show ((n : Int) + 1).toNat = n + 1 from by omega, rep_flat] at hq1
    have sF : Same H (upd H1 F (.lst [.ref a0])) := ((same_new hd).trans s1).trans (same_new hF)
    have hF0 : H F = none := none_of ((same_new hd).trans s1) hF
    have VF : VL K (upd H1 F (.lst [.ref a0])) F [(a0, List.replicate (n + 1) 0)] := ⟨upd_same, fun t ht => by
      rw [List.mem_singleton.mp ht]
      exact same_sqt (same_new hF) hq1⟩
    generalize upd H1 F (.lst [.ref a0]) = H2 at sF VF ⊢
    refine ⟨_, rfl, (by show 1 ≤ sizeLine; omega), fun d2 hd2 => ⟨_, rfl, d2, _, _, rfl, rfl, .inl (.inl upd_same), (by simp), by omega, by omega, (by show 1 ≤ 1000; decide), fun a1 H3 s3 hq3 => ⟨(by show 1 ≤ sizeLine; omega), fun d3 hd3 => ?_⟩⟩⟩
    rw [show ((n : Int)).toNat = n from by omega, rep_flat] at hq3
    refine ⟨a1, d3, _, _, rfl, rfl, same_sqt (same_new hd3) hq3, .inl (.inl upd_same), ?_, fun a2 H4 s4 hq4 => ⟨(by show 1 ≤ sizeLine; omega), fun G hG => ?_⟩⟩
    · rw [List.length_map, List.length_replicate]
      show n + 1 ≤ sizeLine
      omega
    have hq4 : SqT K H4 a2 ((List.replicate n (0 : Int) ++ [1]).map V.int) := by
      rw [List.map_append]
      exact hq4
    have s24 : Same H2 H4 := (((same_new hd2).trans s3).trans (same_new hd3)).trans s4
    have hV5 := (hV.same (sF.trans s24)).same (same_new (o := .lst [.ref a2]) hG)
    refine ⟨l, G, _, _, rfl, rfl, hV5.at_, upd_same, ?_, fun p hp => ?_⟩
    · rw [List.length_map]
      show rs.length + 1 ≤ sizeLine
      omega
    have V6 : VL K (upd (upd H4 G (.lst [.ref a2])) p (.lst (rs.map fRef ++ [.ref a2]))) p (rs ++ [(a2, List.replicate n 0 ++ [1])]) := by
      refine ⟨?_, ?_⟩
      · rw [upd_same, List.map_append]
        rfl
      · exact (hV5.el.same (same_new hp)).snoc (same_sqt ((same_new hG).trans (same_new hp)) hq4)
    have s26 : Same H2 (upd (upd H4 G (.lst [.ref a2])) p (.lst (rs.map fRef ++ [.ref a2]))) := (s24.trans (same_new hG)).trans (same_new hp)
    generalize upd (upd H4 G (.lst [.ref a2])) p (.lst (rs.map fRef ++ [.ref a2])) = H6 at V6 s26 ⊢
    have hrl6 : ∀ t ∈ rs ++ [(a2, List.replicate n 0 ++ [1])], t.2.length = n + 1 := fun t ht => by
      rcases List.mem_append.mp ht with ht | ht
      · exact hrl t ht
      · rw [List.mem_singleton.mp ht]
        show (List.replicate n (0 : Int) ++ [1]).length = n + 1
        rw [List.length_append, List.length_replicate]
        rfl
    have hl6 : (rs ++ [(a2, List.replicate n (0 : Int) ++ [1])]).length ≤ 6 := by
      rw [List.length_append]
      show rs.length + 1 ≤ 6
      omega
    have hv6 : vals (rs ++ [(a2, List.replicate n 0 ++ [1])]) = vals rs ++ [List.replicate n 0 ++ [1]] := List.map_append ..
    generalize rs ++ [(a2, List.replicate n 0 ++ [1])] = ws at V6 hrl6 hl6 hv6
    refine ⟨p, rfl, ⟨_, V6.sq⟩, ?_⟩
    have V7 := VF.same s26
    have s6 := sF.trans s26
    refine forL ws fRef (fun i σ H' => ∃ v4 v5 v6 v7 b xs, σ = [some (.ref l), some (.int n), some (.int q), some (.ref b), v4, v5, v6, v7] ∧ Same H6 H' ∧ H b = none ∧ VL K H' b xs ∧ vals xs = ((vals ws).take i).foldl (spanStep q) [List.replicate (n + 1) 0] ∧ xs.length ≤ 6 ^ i ∧ ∀ t ∈ xs, t.2.length = n + 1) ⟨none, none, none, none, F, _, rfl, fun _ _ h => h, hF0, V7, rfl, by show 1 ≤ 6 ^ 0; decide, fun t ht => ?_⟩ (fun i σ H' hp => ?_) ?_ ?_
    · rw [List.mem_singleton.mp ht]
      exact List.length_replicate
    · obtain ⟨_, _, _, _, _, _, _, s7, _⟩ := hp
      exact (V6.same s7).sq
    · rintro i t σ H7 ht ⟨v4, v5, v6, v7, b, xs, rfl, s7, hb, Vx, ex, hxl, hxn⟩
      have htm := List.mem_of_getElem? ht
      have hi : i < ws.length := (List.getElem?_eq_some_iff.mp ht).1
      have htq := (V6.el.same s7) t htm
      have hxl2 : xs.length ≤ 7776 := Nat.le_trans hxl (Nat.pow_le_pow_right (by decide) (show i ≤ 5 by omega))
      have eF : ((vals ws).take (i + 1)).foldl (spanStep q) [List.replicate (n + 1) 0] = spanStep q (vals xs) t.2 := by
        rw [take_snoc (vl_at ht), List.foldl_append, ex]
        rfl
      refine ⟨_, rfl, _, rfl, ⟨t.2⟩, (vals xs).map PySem.W.Tup.mk, b, _, hd_tup htq, rfl, Vx.sq, dp_tups Vx.el, _, rfl, ite2 (fun hno => ?_) (fun hyes => ?_)⟩
      · have hno := tup_notin.mp (of_decide_eq_true hno)
        have hb7 : Same H H7 := s6.trans s7
        have eS : spanStep q (vals xs) t.2 = (vals xs).flatMap fun v => (List.range q.toNat).map fun d : Nat => plusV d q v t.2 := by
          rw [spanStep, if_neg hno]
        refine ⟨Nat.zero_le _, fun E0 hE0 => ?_⟩
        have s8 := same_new (o := .lst []) hE0
        refine ⟨_, rfl, b, rfl, ⟨_, (Vx.same s8).sq⟩, ?_⟩
        have hE6 : H E0 = none := none_of hb7 hE0
        refine forL xs fRef (fun j σ H' => ∃ v6 v7 es, σ = [some (.ref l), some (.int n), some (.int q), some (.ref b), some (.ref t.1), some (.ref E0), v6, v7] ∧ Same H7 H' ∧ VL K H' E0 es ∧ vals es = ((vals xs).take j).flatMap (fun v => (List.range q.toNat).map fun d : Nat => plusV d q v t.2)) ⟨v6, v7, [], rfl, s8, ⟨upd_same, fun t ht => nomatch ht⟩, rfl⟩ (fun j σ H' p => ?_) ?_ ?_
        · obtain ⟨_, _, _, _, s9, _⟩ := p
          exact (Vx.same s9).sq
        · rintro j u σ H9 hu ⟨v6, v7, es, rfl, s9, Ve, ee⟩
          have hum := List.mem_of_getElem? hu
          have hj : j < xs.length := (List.getElem?_eq_some_iff.mp hu).1
          refine ⟨_, rfl, .inl ⟨rfl, _, Ve.sq⟩, ?_⟩
          refine ⟨_, rfl, q, rfl, by omega, by omega, fun E1 hE1 => ?_⟩
          refine lcR q.toNat (fun m H' => ∃ fs, Same H9 H' ∧ VL K H' E1 fs ∧ vals fs = (List.range m).map fun d : Nat => plusV d q u.2 t.2) ⟨[], same_new hE1, ⟨upd_same, fun t ht => nomatch ht⟩, rfl⟩ ?_ ?_
          · rintro m Hm hm ⟨fs, sm, Vm, em⟩
            have hu2 := same_sqt sm (same_sqt s9 (Vx.el u hum))
            have ht2 := same_sqt sm (same_sqt s9 htq)
            have hul := hxn u hum
            have htl := hrl6 t htm
            refine ⟨rfl, _, rfl, _, rfl, _, rfl, _, rfl, u.1, t.1, u.2, t.2, 0 + (m : Int), q, rfl, hu2, ht2, by omega, by omega, by omega, by omega, by omega, fun Hp p1 sp hp1 ep => ?_⟩
            have Vp := Vm.same sp
            have flen : fs.length = m := by
              have := congrArg List.length em
              rw [vals_len, List.length_map, List.length_range] at this
              exact this
            refine ⟨_, Vp.at_, ?_, fs ++ [(p1, plusV (0 + (m : Int)) q u.2 t.2)], same_mut (sm.trans sp) hE1, Vp.snoc (.inl (.inl ep)), ?_⟩
            · rw [List.length_map]
              exact small1000 (by omega)
            · show (fs ++ _).map _ = _
              rw [List.map_append, List.range_succ, List.map_append, Int.zero_add]
              exact congrArg (· ++ _) em
          · rintro Hm ⟨fs, sm, Vm, em⟩
            have Ve' := Ve.same sm
            have flen : fs.length = q.toNat := by
              have := congrArg List.length em
              rw [vals_len, List.length_map, List.length_range] at this
              exact this
            have elen : es.length = j * q.toNat := by
              have := congrArg List.length ee
              rw [vals_len, flatMap_len (k := q.toNat) fun x _ => by rw [List.length_map, List.length_range], List.length_take, vals_len] at this
              rw [this, Nat.min_eq_left (by omega)]
            have elen2 : es.length ≤ 7776 * 5 := by
              rw [elen]
              exact Nat.mul_le_mul (by omega) (by omega)
            refine ⟨E0, E1, _, _, rfl, rfl, Ve'.at_, Vm.at_, ?_, ?_⟩
            · rw [List.length_map, List.length_map]
              omega
            · refine ⟨_, _, es ++ fs, rfl, same_mut (s9.trans sm) hE0, Ve'.app Vm.el, ?_⟩
              show (es ++ fs).map _ = _
              rw [take_snoc (vl_at hu), List.map_append, List.flatMap_append]
              refine congr (congrArg _ ee) ?_
              rw [List.flatMap_cons, List.flatMap_nil, List.append_nil]
              exact em
        · rintro σ H9 ⟨v6, v7, es, rfl, s9, Ve, ee⟩
          rw [← vals_len, List.take_length] at ee
          have hes : vals es = spanStep q (vals xs) t.2 := by rw [eS, ee]
          refine ⟨_, rfl, _, _, v6, v7, E0, es, rfl, s7.trans s9, hE6, Ve, ?_, ?_, fun z hz => ?_⟩
          · rw [eF, hes]
          · have h1 := spanStep_len (q := q) (vs := vals xs) (r := t.2)
            rw [← hes, vals_len, vals_len] at h1
            refine Nat.le_trans h1 ?_
            rw [Nat.pow_succ]
            exact Nat.mul_le_mul hxl (by omega)
          · have hz2 : z.2 ∈ vals es := List.mem_map_of_mem hz
            rw [ee] at hz2
            obtain ⟨v, hv, hz2⟩ := List.mem_flatMap.mp hz2
            obtain ⟨d, _, e⟩ := List.mem_map.mp hz2
            obtain ⟨y, hy, rfl⟩ := List.mem_map.mp hv
            rw [← e]
            exact plus_len (hxn y hy) (hrl6 t htm)
      · have hin : t.2 ∈ vals xs := by
          refine Classical.byContradiction fun z => ?_
          exact hyes (decide_eq_true (tup_notin.mpr z))
        refine ⟨_, v5, v6, v7, b, xs, rfl, s7, hb, Vx, ?_, ?_, hxn⟩
        · rw [eF, spanStep, if_pos hin]
        · exact Nat.le_trans hxl (Nat.pow_le_pow_right (by decide) (Nat.le_succ i))
    · rintro σ H7 ⟨v4, v5, v6, v7, b, xs, rfl, s7, hb, Vx, ex, hxl, hxn⟩
      refine ⟨_, rfl, k _ b xs (s6.trans s7) hb Vx ?_⟩
      rw [ex, ← vals_len, List.take_length, hv6]
      rfl
end
end K14
/-! D18 -/
set_option Elab.async false
set_option linter.all false
set_option maxRecDepth 100000
set_option maxHeartbeats 4000000
/-! D18: from vectors to sums and back; leading places; names told. -/
namespace K14
open PySem PySem.Spec PyProof.Rows L2
/-- a vector's weights, by name -/
def toF : List Str → List Int → Str → Int
  | n :: ns, d :: v => fun x => if x = n then d else toF ns v x
  | _, _ => fun _ => 0
/-- its number without a name -/
def cst (v : List Int) : Int := (v.getLast?).getD 0
theorem cst_last {v : List Int} (h : v ≠ []) : cst v = v.getLast h := by
  unfold cst
  rw [List.getLast?_eq_some_getLast h]
  rfl
theorem toF_out : ∀ {ns : List Str} {v : List Int} {x : Str}, x ∉ ns → toF ns v x = 0
  | [], _, _, _ => by unfold toF; rfl
  | _ :: _, [], _, _ => by unfold toF; rfl
  | n :: ns, d :: v, x, h => by
    show (if x = n then d else toF ns v x) = 0
    rw [if_neg fun e => h (by rw [e]; exact List.mem_cons_self)]
    exact toF_out fun e => h (List.mem_cons_of_mem _ e)
theorem toF_rg {q : Int} (hq : 0 < q) : ∀ {ns : List Str} {v : List Int}, (∀ d ∈ v, 0 ≤ d ∧ d < q) → ∀ x, 0 ≤ toF ns v x ∧ toF ns v x < q
  | [], _, _, _ => by unfold toF; exact ⟨by omega, hq⟩
  | _ :: _, [], _, _ => by unfold toF; exact ⟨by omega, hq⟩
  | n :: ns, d :: v, h, x => by
    show 0 ≤ (if x = n then d else toF ns v x) ∧ (if x = n then d else toF ns v x) < q
    split
    · exact h d List.mem_cons_self
    · exact toF_rg hq (fun z hz => h z (List.mem_cons_of_mem _ hz)) x
theorem tb_zip {U : List Str} : ∀ {ns : List Str} {v : List Int} {kvs : List (Key × V)} {g : Str → Int}, ns.Nodup → (∀ x ∈ ns, x ∈ U) → ns.length ≤ v.length → Tb U kvs g →
    Tb U (mergeK kvs ((ns.map (Sum.inr : Str → Key)).zip (v.map V.int))) (fun x => if x ∈ ns then toF ns v x else g x)
  | [], v, kvs, g, _, _, _, t => t.eq fun x => by rw [if_neg (fun h => nomatch h)]
  | _ :: _, [], _, _, _, _, hl, _ => by cases hl
  | n :: ns, d :: v, kvs, g, nd, hs, hl, t => by
    obtain ⟨n1, n2⟩ := List.nodup_cons.mp nd
    have q := tb_zip (v := v) n2 (fun x hx => hs x (List.mem_cons_of_mem _ hx)) (by simpa using hl) (t.put (hs n List.mem_cons_self) d)
    refine Tb.eq q fun x => ?_
    show (if x ∈ ns then toF ns v x else if x = n then d else g x) = if x ∈ n :: ns then (if x = n then d else toF ns v x) else g x
    by_cases e : x = n
    · subst e
      rw [if_neg n1, if_pos rfl, if_pos List.mem_cons_self, if_pos rfl]
    · rw [if_neg e, if_neg e]
      by_cases h : x ∈ ns
      · rw [if_pos h, if_pos (List.mem_cons_of_mem _ h)]
      · rw [if_neg h, if_neg fun z => (List.mem_cons.mp z).elim e h]
theorem last_at {v : List Int} {m : Nat} (h : v.length = m + 1) : atI (v.map V.int) (-1) = some (.int (cst v)) := by
  have hn : v ≠ [] := fun e => by rw [e] at h; cases h
  unfold atI ixN
  rw [if_neg (by omega), List.length_map, h]
  simp only [List.getElem?_map]
  have : (-1 + ((m : Int) + 1)).toNat = m := by omega
  first
    | rw [if_pos (by omega)]
    | skip
  rw [cst_last hn, List.getLast_eq_getElem]
  simp [h]
  rw [this, List.getElem?_eq_getElem (by omega)]
section
variable {P : Program} {w : World} {K : PySem.W.Frag} {mg : Str → Option Value} {base : Heap} {CS CP AM : Addr}
/-- the names that a script has drawn -/
structure Nms (U ns : List Str) : Prop where
  nd : ns.Nodup
  sub : ∀ x ∈ ns, x ∈ U
  uo : Uok U
def spLSum (K : PySem.W.Frag) (CS : Addr) : Sp := fun vs H Q _ => ∃ (a lN : Addr) (q : Int) (ns U : List Str) (v : List Int), vs = [.ref a, .ref lN, .int q] ∧ SqT K H a (v.map V.int) ∧ H lN = some (.lst (ns.map V.str)) ∧ v.length = ns.length + 1 ∧ ns.length ≤ 5 ∧ (∀ d ∈ v, 0 ≤ d ∧ d < q) ∧ Nms U ns ∧ Qok q ∧
  ∀ H' p, Same H H' → H p = none → SumAt CS H' p U q (toF ns v) (cst v) → Q (.ref p) H'
theorem ok_law_sum (T : Tx K mg CS CP AM) : GN P w K mg base 7 "_law_sum" (spLSum K CS) := by
  refine Fd.gn T.f_law_sum sc_law_sum (fun vs H Q E h => ?_) (fun _ _ _ _ _ _ us hl => match us, hl with | [_, _, _], _ => rfl) (fun f cdv A outer s H vs Q E hr h => ?_)
  · obtain ⟨a, lN, q, ns, U, v, rfl, _⟩ := h
    rfl
  · obtain ⟨a, lN, q, ns, U, v, rfl, ha, hN, hl, h5, hv, hU, hq, k⟩ := h
    have qp : 0 < q := by have := hq.pos; omega
    refine ⟨_, (pss_one (ps_ret (pe_g (ok_Sum T) hr (by rfl) (pa_cons (pv 2) (pa_cons (pe_dictZip (pa_cons (pv 1) (pa_cons (pv 0) pa_nil)) (by rfl) T.n_dict (by rfl) T.n_zip) (pa_cons (pe_ix ix_tup (pv 0) (pe_un un_neg pe_int) (fun _ _ => rfl)) pa_nil)))))), ?_⟩
    have hK : ns.map V.str = (ns.map (Sum.inr : Str → Key)).map kV := by rw [List.map_map]; rfl
    refine ⟨_, rfl, _, rfl, _, rfl, lN, a, ns.map Sum.inr, v.map V.int, rfl, .inl (.inl (by rw [hN, hK])), ha, ?_, fun d hd => ?_⟩
    · rw [List.length_map, List.length_map]
      omega
    have s1 := same_new (o := .dK (mergeK [] ((ns.map (Sum.inr : Str → Key)).zip (v.map V.int)))) hd
    have tb := (tb_zip (v := v) hU.nd hU.sub (by omega) (Tb.nil (W := U))).eq (g' := toF ns v) fun x => by
      by_cases h : x ∈ ns
      · rw [if_pos h]
      · rw [if_neg h, toF_out h]
    have hc : 0 ≤ cst v ∧ cst v < q := by
      refine hv _ ?_
      have hn : v ≠ [] := fun e => by rw [e] at hl; cases hl
      rw [cst_last hn]
      exact List.getLast_mem hn
    refine ⟨_, rfl, 1, rfl, a, _, _, _, rfl, rfl, same_sqt s1 ha, last_at hl, d, q, cst v, U, _, toF ns v, rfl, hq, upd_same, tb, toF_rg qp hv, hU.uo, hc.1, hc.2, fun H' p s2 hp S => ?_⟩
    exact k H' p (s1.trans s2) (none_of s1 hp) S
def rowV (ns : List Str) (f : Str → Int) (c : Int) : List Int := ns.map f ++ [c]
def spLRow (K : PySem.W.Frag) (CS : Addr) : Sp := fun vs H Q _ => ∃ (a lN : Addr) (q c : Int) (ns U : List Str) (f : Str → Int), vs = [.ref a, .ref lN] ∧ SumAt CS H a U q f c ∧ U.Nodup ∧ H lN = some (.lst (ns.map V.str)) ∧ ns.length ≤ 5 ∧
  ∀ H' p, Same H H' → H p = none → SqT K H' p ((rowV ns f c).map V.int) → Q (.ref p) H'
theorem ok_law_row (T : Tx K mg CS CP AM) : GN P w K mg base 3 "_law_row" (spLRow K CS) := by
  refine Fd.gn T.f_law_row sc_law_row (fun vs H Q E h => ?_) (fun _ _ _ _ _ _ us hl => match us, hl with | [_, _], _ => rfl) (fun f0 cdv A outer s H vs Q E hr h => ?_)
  · obtain ⟨a, lN, q, c, ns, U, f, rfl, _⟩ := h
    rfl
  · obtain ⟨a, lN, q, c, ns, U, f, rfl, ha, hUn, hN, h5, k⟩ := h
    refine ⟨_, (pss_one (ps_ret (pe_callTy call_tuple_of (by rfl) T.n_tuple bo_tuple (pa_cons (pe_op op_cat (pe_lc (own := [("_law_name", 2)]) rfl sc_law_row.nd (pi_list (pv 1)) (blkOk_by (N := N_law_row) (sc := defScope st_law_row) (by decide +kernel)) (fun _ _ _ _ _ => (pg_name (i := 2) sc_law_row.nd rfl (Or.inl rfl) (Or.inr rfl))) (fun _ _ _ _ _ => pts_nil) (fun _ _ _ _ _ => (pe_gm (pv 0) T.c_Sum.cl (ok_Sum_weight T) hr (pa_cons (pv 2) pa_nil)))) (pe_lst (pa_cons (pe_gp (pv 0) T.c_Sum.cl (ok_Sum_constant T) hr) pa_nil))) pa_nil)))), ?_⟩
    refine ⟨_, rfl, lN, rfl, ⟨_, .inl (.inl hN)⟩, fun E hE => ?_⟩
    refine lcL ns V.str (fun i H' => Same H H' ∧ H' E = some (.lst (((ns.take i).map f).map V.int))) ⟨same_new hE, upd_same⟩ (fun i H' p => .inl (.inl (p.1 _ _ hN))) ?_ ?_
    · rintro i x H2 hx ⟨s2, e2⟩
      have hi : i < ns.length := (List.getElem?_eq_some_iff.mp hx).1
      have a2 := ha.same s2
      obtain ⟨dx, d, g1, g2⟩ := a2.ex
      refine ⟨rfl, _, rfl, a, dx, _, rfl, g1, sumF_no q d c (by decide +kernel) (by decide +kernel) (by decide +kernel), _, rfl, a, U, q, f, c, x, rfl, a2, hUn, _, e2, ?_, same_mut s2 hE, ?_⟩
      · rw [List.length_map, List.length_map, List.length_take]
        exact small1000 (by omega)
      · rw [upd_same, take_snoc hx, List.map_append, List.map_append]
        rfl
    · rintro H2 ⟨s2, e2⟩
      rw [List.take_length] at e2
      obtain ⟨dx, d, g1, g2⟩ := (ha.same s2).ex
      refine ⟨_, rfl, a, dx, _, rfl, g1, a, dx, d, q, c, rfl, g1, (by show 1 ≤ sizeLine; decide), fun g hg => ⟨E, g, _, _, rfl, rfl, same_new hg _ _ e2, upd_same, ?_, fun p hp => ⟨p, _, rfl, .inl ⟨.inl (.inl upd_same), fun z hz => ?_⟩⟩⟩⟩
      · rw [List.length_map, List.length_map]
        have : sizeLine ≥ 1000 := by decide
        show ns.length + 1 ≤ sizeLine
        omega
      · refine k _ z (((s2.trans (same_new hg)).trans (same_new hp)).trans (same_new hz)) (none_of ((s2.trans (same_new hg)).trans (same_new hp)) hz) (.inl (.inl ?_))
        rw [upd_same, rowV, List.map_append]
        rfl
end
end K14
/-! D19 -/
set_option Elab.async false
set_option linter.all false
set_option maxRecDepth 100000
set_option maxHeartbeats 4000000
/-! D19: leading places; names told. -/
namespace K14
open PySem PySem.Spec PyProof.Rows L2
theorem first_of {p : Nat → Bool} : ∀ {n i : Nat}, ((List.range n).filter p)[0]? = some i → i < n ∧ p i = true ∧ ∀ j, j < i → p j = false
  | 0, i, h => by simp at h
  | n + 1, i, h => by
    rw [List.range_succ, List.filter_append] at h
    by_cases e : (List.range n).filter p = []
    · rw [e, List.nil_append] at h
      by_cases pn : p n = true
      · rw [List.filter_cons, if_pos pn] at h
        have : n = i := by simpa using h
        subst this
        refine ⟨Nat.lt_succ_self _, pn, fun j hj => ?_⟩
        have := List.filter_eq_nil_iff.mp e j (List.mem_range.mpr hj)
        simpa using this
      · rw [List.filter_cons, if_neg pn] at h
        simp at h
    · rw [List.getElem?_append_left (List.length_pos_iff.mpr e)] at h
      obtain ⟨h1, h2, h3⟩ := first_of h
      exact ⟨Nat.lt_succ_of_lt h1, h2, h3⟩
theorem sIx_m1 {n : Nat} (h : 0 < n) : HT.sIx n n (some (-1)) = n - 1 := by
  show (if (-1 : Int) < 0 then (-1 + (n : Int)).toNat else min (-1 : Int).toNat n) = n - 1
  rw [if_pos (by omega)]
  omega
section
variable {P : Program} {w : World} {K : PySem.W.Frag} {mg : Str → Option Value} {base : Heap} {CS CP AM : Addr}
/-- the first place that is not 0 -/
def LeadV (v : List Int) (i : Nat) : Prop := i + 1 < v.length ∧ v.getD i 0 ≠ 0 ∧ ∀ j, j < i → v.getD j 0 = 0
def spLead (K : PySem.W.Frag) : Sp := fun vs H Q _ => ∃ (a : Addr) (v : List Int), vs = [.ref a] ∧ SqT K H a (v.map V.int) ∧ v.length ≤ 6 ∧ (∃ i, i + 1 < v.length ∧ v.getD i 0 ≠ 0) ∧ ∀ H' i, Same H H' → LeadV v i → Q (.int (i : Nat)) H'
theorem ok_law_lead (T : Tx K mg CS CP AM) : GN P w K mg base 1 "_law_lead" (spLead K) := by
  refine Fd.gn T.f_law_lead sc_law_lead (fun vs H Q E h => ?_) (fun _ _ _ _ _ _ us hl => match us, hl with | [_], _ => rfl) (fun f cdv A outer s H vs Q E hr h => ?_)
  · obtain ⟨a, v, rfl, _⟩ := h
    rfl
  · obtain ⟨a, v, rfl, ha, hl, ⟨i0, hi0, hv0⟩, k⟩ := h
    refine ⟨_, (pss_one (ps_ret (pe_ix ix_list (pe_lc (own := [("_law_at", 1), ("_law_weight", 2)]) rfl sc_law_lead.nd (pi_enumA (by rfl) T.n_enumerate (pa_cons (pe_slice sl_tup (pv 0) po_none (po_some (pe_un un_neg pe_int))) pa_nil)) (blkOk_by (N := N_law_lead) (sc := defScope st_law_lead) (by decide +kernel)) (fun _ _ _ _ _ => (pg_tup' (K := K) 2 (pgs_cons (pg_name (i := 1) sc_law_lead.nd rfl (Or.inl rfl) (Or.inr rfl)) (pgs_cons (pg_name (i := 2) sc_law_lead.nd rfl (Or.inl rfl) (Or.inr rfl)) pgs_nil)))) (fun _ _ _ _ _ => (pts_one (pt_cmpR op_ne (pv 2) pe_int (nomark _)))) (fun _ _ _ _ _ => (pv 1))) pe_int (fun _ _ => rfl)))), ?_⟩
    have hcut : cutV (v.map V.int) none (some (-1)) = (v.take (v.length - 1)).map V.int := by
      unfold cutV
      rw [List.length_map, sIx_m1 (by omega)]
      show ((v.map V.int).drop 0).take (v.length - 1 - 0) = _
      rw [List.drop_zero, List.map_take]
      rfl
    refine ⟨_, rfl, 1, rfl, _, rfl, a, _, rfl, ha, ?_, fun d hd => ?_⟩
    · rintro ⟨_, h2⟩
      rw [List.length_map, sIx_m1 (by omega)] at h2
      omega
    have s1 := same_new (o := .tup (cutV (v.map V.int) none (some (-1)))) hd
    have hd1 : (upd H d (.tup (cutV (v.map V.int) none (some (-1))))) d = some (.tup ((v.take (v.length - 1)).map V.int)) := by rw [upd_same, hcut]
    generalize upd H d (.tup (cutV (v.map V.int) none (some (-1)))) = H1 at s1 hd1 ⊢
    refine ⟨d, _, rfl, .inr ⟨.inl (.inl hd1), fun E hE => ?_⟩⟩
    have hm : (v.take (v.length - 1)).length = v.length - 1 := by rw [List.length_take]; omega
    refine lc_by (v.length - 1) (fun n H' => Same H1 H' ∧ H' E = some (.lst (((List.range n).filter fun i => decide (v.getD i 0 ≠ 0)).map fun i : Nat => V.int i))) ⟨same_new hE, by rw [upd_same]; rfl⟩ ?_ ?_
    · rintro n H2 hn ⟨s2, e2⟩
      have hn2 : n < (v.take (v.length - 1)).length := by omega
      have g1 : ((v.take (v.length - 1)).map V.int)[n]? = some (V.int (v.getD n 0)) := by
        rw [at_map (List.getElem?_eq_getElem hn2), List.getElem_take, List.getD_eq_getElem?_getD, List.getElem?_eq_getElem (by omega)]
        rfl
      have q2 : SqT K H2 d ((v.take (v.length - 1)).map V.int) := .inl (.inl (s2 _ _ hd1))
      refine ⟨⟨_, _, q2, g1⟩, ?_⟩
      rintro x H3 ⟨T', y, rfl, hT, rfl, hx⟩
      have ex := hx _ q2
      rw [g1] at ex
      obtain rfl := Option.some.inj ex
      have er : (List.range (n + 1)).filter (fun i => decide (v.getD i 0 ≠ 0)) = (List.range n).filter (fun i => decide (v.getD i 0 ≠ 0)) ++ if v.getD n 0 ≠ 0 then [n] else [] := by
        rw [List.range_succ, List.filter_append, List.filter_cons]
        by_cases z : v.getD n 0 ≠ 0
        · rw [if_pos z, if_pos (decide_eq_true z)]
          rfl
        · rw [if_neg z, if_neg (by simpa using z)]
          rfl
      refine ⟨T', _, rfl, .inl (.inl upd_same), rfl, _, _, rfl, _, _, rfl, rfl, rfl, ?_⟩
      refine ⟨_, rfl, rfl, _, rfl, ?_⟩
      refine ite2 (fun hne => ?_) (fun he => ?_)
      · have hne : v.getD n 0 ≠ 0 := by simpa using hne
        refine ⟨_, rfl, _, same_new hT _ _ e2, ?_, same_mut (same_add s2 hT) hE, ?_⟩
        · rw [List.length_map]
          have := List.length_filter_le (fun i => decide (v.getD i 0 ≠ 0)) (List.range n)
          rw [List.length_range] at this
          exact small1000 (by omega)
        · rw [upd_same, er, if_pos hne, List.map_append]
          rfl
      · have he : v.getD n 0 = 0 := by simpa using he
        refine ⟨same_add s2 hT, ?_⟩
        rw [er, if_neg (by simpa using he), List.append_nil]
        exact same_new hT _ _ e2
    · rintro H2 ⟨s2, e2⟩
      refine ⟨⟨_, .inl (.inl (s2 _ _ hd1)), by rw [List.length_map]; omega⟩, ?_⟩
      have hmem : i0 ∈ (List.range (v.length - 1)).filter fun i => decide (v.getD i 0 ≠ 0) := List.mem_filter.mpr ⟨List.mem_range.mpr (by omega), decide_eq_true hv0⟩
      have hpos := List.length_pos_of_mem hmem
      have hat := List.getElem?_eq_getElem hpos
      obtain ⟨f1, f2, f3⟩ := first_of hat
      refine ⟨E, _, 0, _, rfl, rfl, .inl (.inl e2), atI_nat (i := 0) (at_map hat), k _ _ (s1.trans s2) ⟨by omega, of_decide_eq_true f2, fun j hj => ?_⟩⟩
      have := f3 j hj
      simpa using this
def namedV (ns : List Str) (v : List Int) : List Str := ((ns.zip v).filter fun p => decide (p.2 ≠ 0)).map (·.1)
def spNamed (K : PySem.W.Frag) : Sp := fun vs H Q _ => ∃ (a lN : Addr) (v : List Int) (ns : List Str), vs = [.ref a, .ref lN] ∧ SqT K H a (v.map V.int) ∧ H lN = some (.lst (ns.map V.str)) ∧ v.length = ns.length + 1 ∧ ns.length ≤ 5 ∧ ∀ H' p, Same H H' → H p = none → H' p = some (.lst ((namedV ns v).map V.str)) → Q (.ref p) H'
theorem ok_law_named (T : Tx K mg CS CP AM) : GN P w K mg base 1 "_law_named" (spNamed K) := by
  refine Fd.gn T.f_law_named sc_law_named (fun vs H Q E h => ?_) (fun _ _ _ _ _ _ us hl => match us, hl with | [_, _], _ => rfl) (fun f cdv A outer s H vs Q E hr h => ?_)
  · obtain ⟨a, lN, v, ns, rfl, _⟩ := h
    rfl
  · obtain ⟨a, lN, v, ns, rfl, ha, hN, hl, h5, k⟩ := h
    refine ⟨_, (pss_one (ps_ret (pe_lc (own := [("_law_name", 2), ("_law_weight", 3)]) rfl sc_law_named.nd (pi_zipM (by rfl) T.n_zip (pa_cons (pv 1) (pa_cons (pv 0) pa_nil))) (blkOk_by (N := N_law_named) (sc := defScope st_law_named) (by decide +kernel)) (fun _ _ _ _ _ => (pg_tup' (K := K) 2 (pgs_cons (pg_name (i := 2) sc_law_named.nd rfl (Or.inl rfl) (Or.inr rfl)) (pgs_cons (pg_name (i := 3) sc_law_named.nd rfl (Or.inl rfl) (Or.inr rfl)) pgs_nil)))) (fun _ _ _ _ _ => (pts_one (pt_cmpR op_ne (pv 3) pe_int (nomark _)))) (fun _ _ _ _ _ => (pv 2))))), ?_⟩
    refine ⟨_, rfl, _, rfl, lN, a, _, _, rfl, .inl (.inl hN), ha, fun E hE => ?_⟩
    have hz : (ns.zip v).length = ns.length := by rw [List.length_zip]; omega
    refine lc_by ns.length (fun n H' => Same H H' ∧ H' E = some (.lst (((((ns.zip v).take n).filter fun p => decide (p.2 ≠ 0)).map (·.1)).map V.str))) ⟨same_new hE, by rw [upd_same]; rfl⟩ ?_ ?_
    · rintro n H2 hn ⟨s2, e2⟩
      have g1 : (ns.map V.str)[n]? = some (V.str ns[n]) := at_map (List.getElem?_eq_getElem hn)
      have hv : n < v.length := by omega
      have g2 : (v.map V.int)[n]? = some (V.int v[n]) := at_map (List.getElem?_eq_getElem hv)
      have q1 : SqL K H2 lN (ns.map V.str) := .inl (.inl (s2 _ _ hN))
      have q2 := same_sqt s2 ha
      refine ⟨⟨_, _, _, _, q1, q2, g1, g2⟩, ?_⟩
      rintro x H3 ⟨T', x, y, rfl, hT, rfl, hx, hy⟩
      have ex := hx _ q1
      rw [g1] at ex
      obtain rfl := Option.some.inj ex
      have ey := hy _ q2
      rw [g2] at ey
      obtain rfl := Option.some.inj ey
      have hnz : n < (ns.zip v).length := by omega
      have er : ((ns.zip v).take (n + 1)).filter (fun p => decide (p.2 ≠ 0)) = ((ns.zip v).take n).filter (fun p => decide (p.2 ≠ 0)) ++ if v[n] ≠ 0 then [(ns[n], v[n])] else [] := by
        rw [take_snoc (List.getElem?_eq_getElem hnz), List.filter_append, List.getElem_zip, List.filter_cons]
        by_cases z : v[n] ≠ 0
        · rw [if_pos z, if_pos (decide_eq_true z)]
          rfl
        · rw [if_neg z, if_neg (by simpa using z)]
          rfl
      refine ⟨T', _, rfl, .inl (.inl upd_same), rfl, _, _, rfl, _, _, rfl, rfl, rfl, ?_⟩
      refine ⟨_, rfl, rfl, _, rfl, ?_⟩
      refine ite2 (fun hne => ?_) (fun he => ?_)
      · have hne : v[n] ≠ 0 := by simpa using hne
        refine ⟨_, rfl, _, same_new hT _ _ e2, ?_, same_mut (same_add s2 hT) hE, ?_⟩
        · rw [List.length_map, List.length_map]
          have h1 := List.length_filter_le (fun p : Str × Int => decide (p.2 ≠ 0)) ((ns.zip v).take n)
          have h2 : ((ns.zip v).take n).length ≤ n := by rw [List.length_take]; omega
          exact small1000 (by omega)
        · rw [upd_same, er, if_pos hne, List.map_append, List.map_append]
          rfl
      · have he : v[n] = 0 := by simpa using he
        refine ⟨same_add s2 hT, ?_⟩
        rw [er, if_neg (by simpa using he), List.append_nil]
        exact same_new hT _ _ e2
    · rintro H2 ⟨s2, e2⟩
      refine ⟨⟨_, _, .inl (.inl (s2 _ _ hN)), same_sqt s2 ha, by rw [List.length_map]; exact Nat.le_refl _, by rw [List.length_map]; omega, .inl (by rw [List.length_map])⟩, k H2 E s2 hE ?_⟩
      rw [← hz, List.take_length] at e2
      exact e2
end
end K14
/-! D20 -/
set_option Elab.async false
set_option linter.all false
set_option maxRecDepth 100000
set_option maxHeartbeats 4000000
/-! D20: the law's test of a basis. -/
namespace K14
open PySem PySem.Spec PyProof.Rows L2
/-- rows in echelon form, their leading places -/
structure Ech (n : Nat) (rs : Tl) (ls : List Nat) : Prop where
  len : ls.length = rs.length
  vl : ∀ t ∈ rs, t.2.length = n + 1
  ld : ∀ (i : Nat) (t : Addr × List Int) (a : Nat), rs[i]? = some t → ls[i]? = some a → LeadV t.2 a
  one : ∀ (i : Nat) (t : Addr × List Int) (a : Nat), rs[i]? = some t → ls[i]? = some a → t.2.getD a 0 = 1
  zer : ∀ (i j : Nat) (t : Addr × List Int) (a : Nat), rs[i]? = some t → ls[j]? = some a → i ≠ j → t.2.getD a 0 = 0
  inc : ls.Pairwise (· < ·)
theorem LeadV.uniq {v : List Int} {i j : Nat} (a : LeadV v i) (b : LeadV v j) : i = j := by
  rcases Nat.lt_trichotomy i j with h | h | h
  · exact absurd (b.2.2 i h) a.2.1
  · exact h
  · exact absurd (a.2.2 j h) b.2.1
theorem atI_getD {v : List Int} {a : Nat} (h : a < v.length) : atI (v.map V.int) (a : Int) = some (.int (v.getD a 0)) := by
  refine atI_nat ?_
  rw [at_map (List.getElem?_eq_getElem h), List.getD_eq_getElem?_getD, List.getElem?_eq_getElem h]
  rfl
theorem cut_to {xs : List V} {i : Nat} (h : i ≤ xs.length) : cutV xs none (some (i : Int)) = xs.take i := by
  unfold cutV
  rw [HT.sIx_nat]
  show (xs.drop 0).take (min i xs.length - 0) = _
  rw [List.drop_zero, Nat.min_eq_left h, Nat.sub_zero]
theorem cut_from {xs : List V} {i : Nat} (h : i ≤ xs.length) : cutV xs (some (i : Int)) none = xs.drop i := by
  unfold cutV
  rw [HT.sIx_nat, Nat.min_eq_left h]
  show (xs.drop i).take (xs.length - i) = _
  rw [← List.length_drop, List.take_length]
abbrev fNat : Nat → V := fun a => V.int (a : Int)
theorem fNat_map {ls : List Nat} : ls.map fNat = (ls.map (fun a : Nat => (a : Int))).map V.int := by rw [List.map_map]; rfl
theorem ints_uniq {xs ys : List Int} (h1 : xs.Pairwise (· < ·)) (h2 : ys.Pairwise (· ≤ ·)) (h3 : ys.Nodup) (h4 : ∀ k, k ∈ ys ↔ k ∈ xs) : xs = ys := by
  have nd : xs.Nodup := h1.imp fun h => Int.ne_of_lt h
  exact sorted_uniq (le := fun a b : Int => a ≤ b) (fun a b x y => Int.le_antisymm x y) ((List.perm_ext_iff_of_nodup nd h3).mpr fun k => (h4 k).symm) (h1.imp fun h => Int.le_of_lt h) h2
section
variable {P : Program} {w : World} {K : PySem.W.Frag} {mg : Str → Option Value} {base : Heap} {CS CP AM : Addr}
def spIsBasis (K : PySem.W.Frag) : Sp := fun vs H Q _ => ∃ (l l2 : Addr) (rs ss : Tl) (q : Int) (n : Nat) (ls : List Nat), vs = [.ref l, .ref l2, .int q] ∧ Qn q n ∧ VL K H l rs ∧ VL K H l2 ss ∧ rs.length ≤ 6 ∧ Ech n rs ls ∧
  (∀ t ∈ rs, t.2 ∈ vals ss ∧ cst t.2 = 0) ∧ (q ^ (rs.length + 1) = (ss.length : Int)) ∧ ∀ H', Same H H' → Q (.bl true) H'
theorem rep_snoc {α : Type} {n : Nat} {x : α} : List.replicate (n + 1) x = List.replicate n x ++ [x] := List.replicate_succ' ..
theorem ok_law_is_basis (T : Tx K mg CS CP AM) : GN P w K mg base 2 "_law_is_basis" (spIsBasis K) := by
  refine Fd.gn T.f_law_is_basis sc_law_is_basis (fun vs H Q E h => ?_) (fun _ _ _ _ _ _ us hl => match us, hl with | [_, _, _], _ => rfl) (fun f cdv A outer s H vs Q E hr h => ?_)
  · obtain ⟨l, l2, rs, ss, q, n, ls, rfl, _⟩ := h
    rfl
  · obtain ⟨l, l2, rs, ss, q, n, ls, rfl, hq, V1, V2, hlen, hE, hin, hpow, k⟩ := h
    have hu1 := hr.units
    obtain ⟨q2, q5, qn⟩ := hq.1.le
    obtain ⟨_, hn1, _, hn5⟩ := hq
    refine ⟨_, (pss_cons (ps_if (pt_not (pt_val (pe_callB (cr_all rfl) (by rfl) T.n_all bo_all (pa_cons (pe_lc (own := [("_law_row_here", 5)]) rfl sc_law_is_basis.nd (pi_list (pv 0)) (blkOk_by (N := N_law_is_basis) (sc := defScope st_law_is_basis) (by decide +kernel)) (fun _ _ _ _ _ => (pg_name (i := 5) sc_law_is_basis.nd rfl (Or.inl rfl) (Or.inr rfl))) (fun _ _ _ _ _ => pts_nil) (fun _ _ _ _ _ => (pe_and (pe_cmpR (op_inT (PySem.W.Tup Int) hu1 (K := K)) (pv 5) (pv 1) rfl) (pe_and (pe_cmpR op_eq (pe_ix (ix_tup' (K := K)) (pv 5) (pe_un un_neg pe_int) (fun _ _ => rfl)) pe_int (nomark _)) (pe_one (pe_callB cr_anyT (by rfl) T.n_any bo_any (pa_cons (pv 5) pa_nil))))))) pa_nil)))) (pss_one (ps_ret pe_bl)) pss_nil)
      (pss_cons (ps_if (pt_cmpR op_ne (pe_g (ok_law_power T) hr (by rfl) (pa_cons (pv 2) (pa_cons (pe_op op_add (pe_callB call_len_seq (by rfl) T.n_len bo_len (pa_cons (pv 0) pa_nil)) pe_int) pa_nil))) (pe_callB call_len_seq (by rfl) T.n_len bo_len (pa_cons (pv 1) pa_nil)) (nomark _)) (pss_one (ps_ret pe_bl)) pss_nil)
      (pss_cons (ps_setLc (i := 3) (own := [("_law_row_here", 5)]) rfl sc_law_is_basis.nd rfl rfl (sw_true rfl rfl rfl (by decide +kernel)) (pi_list (pv 0)) (blkOk_by (N := N_law_is_basis) (sc := defScope st_law_is_basis) (by decide +kernel)) (fun _ _ _ _ _ => (pg_name (i := 5) sc_law_is_basis.nd rfl (Or.inl rfl) (Or.inr rfl))) (fun _ _ _ _ _ => pts_nil) (fun _ _ _ _ _ => (pe_g (ok_law_lead T) hr (by rfl) (pa_cons (pv 5) pa_nil))))
      (pss_cons (ps_for PassesOwn.never rfl (pi_enum (by rfl) T.n_enumerate (pa_cons (pv 0) pa_nil)) (pg_tup rfl (pgs_cons (pg_name (i := 4) sc_law_is_basis.nd rfl (Or.inl rfl) (Or.inr rfl)) (pgs_cons (pg_name (i := 5) sc_law_is_basis.nd rfl (Or.inr rfl) (Or.inl rfl)) pgs_nil))) (pss_cons (ps_set (i := 6) sc_law_is_basis.nd rfl (Or.inl rfl) (pe_op op_cat (pe_slice sl_list (pv 3) po_none (po_some (pv 4))) (pe_slice sl_list (pv 3) (po_some (pe_op op_add (pv 4) pe_int)) po_none)))
      (pss_one (ps_if (PW.pt (pw_or (pt_cmpR op_ne (pe_ix ix_tup (pv 5) (pe_ix ix_list (pv 3) (pv 4) (fun _ _ => rfl)) (fun _ _ => rfl)) pe_int (nomark _)) (pw_or1 (pt_val (pe_callB (cr_any rfl) (by rfl) T.n_any bo_any (pa_cons (pe_lc (own := [("_law_lead_here", 7)]) rfl sc_law_is_basis.nd (pi_list (pv 6)) (blkOk_by (N := N_law_is_basis) (sc := defScope st_law_is_basis) (by decide +kernel)) (fun _ _ _ _ _ => (pg_name (i := 7) sc_law_is_basis.nd rfl (Or.inl rfl) (Or.inr rfl))) (fun _ _ _ _ _ => pts_nil) (fun _ _ _ _ _ => (pe_cmpR op_ne (pe_ix (ix_tup' (K := K)) (pv 5) (pv 7) (fun _ _ => rfl)) pe_int (nomark _)))) pa_nil)))))) (pss_one (ps_ret pe_bl)) pss_nil))))
      (pss_one (ps_ret (pe_cmpR (op_eqT (List Int) hu1) (pv 3) (pe_sortedSetI (pv 3) (by rfl) T.n_sorted (by rfl) T.n_set) (nomark _)))))))), ?_⟩
    refine ⟨_, rfl, l, rfl, ⟨_, V1.sq⟩, fun E1 hE1 => ?_⟩
    refine lcL rs fRef (fun i H' => Same H H' ∧ H' E1 = some (.lst ((List.replicate i true).map V.bl))) ⟨same_new hE1, upd_same⟩ (fun i H' p => (V1.same p.1).sq) ?_ ?_
    · rintro i t H2 ht ⟨s2, e2⟩
      have htm := List.mem_of_getElem? ht
      have hi : i < rs.length := (List.getElem?_eq_some_iff.mp ht).1
      obtain ⟨h1, h2⟩ := hin t htm
      have hvl := hE.vl t htm
      have htq := (V1.same s2).el t htm
      have d1 : decide (PySem.W.Tup.mk t.2 ∈ (vals ss).map PySem.W.Tup.mk) = true := decide_eq_true (List.mem_map_of_mem h1)
      refine ⟨rfl, _, rfl, _, rfl, ⟨t.2⟩, (vals ss).map PySem.W.Tup.mk, l2, _, hd_tup htq, rfl, (V2.same s2).sq, dp_tups (V2.same s2).el, true, by rw [d1], iteT ?_⟩
      refine ⟨_, rfl, 1, rfl, t.1, _, _, _, rfl, rfl, htq, last_at hvl, rfl, true, by rw [h2]; rfl, iteT ?_⟩
      have hany : t.2.any (fun x => decide (x ≠ 0)) = true := by
        obtain ⟨a, ha⟩ : ∃ a, ls[i]? = some a := ⟨_, List.getElem?_eq_getElem (by rw [hE.len]; exact hi)⟩
        obtain ⟨g1, g2, _⟩ := hE.ld i t a ht ha
        refine List.any_eq_true.mpr ⟨t.2[a], List.getElem_mem (by omega), decide_eq_true ?_⟩
        rw [List.getD_eq_getElem?_getD, List.getElem?_eq_getElem (by omega)] at g2
        exact g2
      refine ⟨_, rfl, t.1, t.2, rfl, htq, _, e2, ?_, same_mut s2 hE1, ?_⟩
      · rw [List.length_map, List.length_replicate]
        exact small1000 (by omega)
      · rw [upd_same, rep_snoc, List.map_append, hany]
        rfl
    · rintro H2 ⟨s2, e2⟩
      refine ⟨E1, List.replicate rs.length true, rfl, .inl (.inl e2), true, by rw [List.all_replicate]; simp, iteF ?_⟩
      refine ⟨_, rfl, _, rfl, l, _, rfl, .inl (V1.same s2).sq, _, 1, rfl, rfl, q, rs.length + 1, ?_, by omega, by omega, by omega, ?_⟩
      · rw [List.length_map]
        rfl
      refine ⟨_, rfl, l2, _, rfl, .inl (V2.same s2).sq, rfl, false, ?_, iteF ?_⟩
      · rw [List.length_map, hpow]
        simp
      refine ⟨_, rfl, l, rfl, ⟨_, (V1.same s2).sq⟩, fun E2 hE2 => ?_⟩
      refine lcL rs fRef (fun i H' => Same H2 H' ∧ H' E2 = some (.lst ((ls.take i).map fNat))) ⟨same_new hE2, by rw [upd_same]; rfl⟩ (fun i H' p => ((V1.same s2).same p.1).sq) ?_ ?_
      · rintro i t H3 ht ⟨s3, e3⟩
        have htm := List.mem_of_getElem? ht
        have hi : i < rs.length := (List.getElem?_eq_some_iff.mp ht).1
        have hvl := hE.vl t htm
        have ha : ls[i]? = some (ls[i]'(by rw [hE.len]; exact hi)) := List.getElem?_eq_getElem _
        have hL := hE.ld i t _ ht ha
        generalize ls[i]'(by rw [hE.len]; exact hi) = a at ha hL
        refine ⟨rfl, _, rfl, t.1, t.2, rfl, ((V1.same s2).same s3).el t htm, by omega, ⟨a, hL.1, hL.2.1⟩, fun H4 b s4 hb => ?_⟩
        obtain rfl := hb.uniq hL
        refine ⟨_, s4 _ _ e3, ?_, same_mut (s3.trans s4) hE2, ?_⟩
        · rw [List.length_map, List.length_take]
          exact small1000 (by omega)
        · rw [upd_same, take_snoc ha, List.map_append]
          rfl
      · rintro H3 ⟨s3, e3⟩
        rw [← hE.len, List.take_length] at e3
        have sH3 := s2.trans s3
        have hE20 : H E2 = none := none_of s2 hE2
        refine ⟨_, rfl, l, _, rfl, (V1.same sH3).sq, ?_⟩
        refine for_by rs.length (fun i σ H' => ∃ v4 v5 v6 v7, σ = [some (.ref l), some (.ref l2), some (.int q), some (.ref E2), v4, v5, v6, v7] ∧ Same H3 H') ⟨_, _, _, _, rfl, fun _ _ h => h⟩ ?_ ?_
        · rintro i σ H4 hi ⟨v4, v5, v6, v7, rfl, s4⟩
          have ht : rs[i]? = some rs[i] := List.getElem?_eq_getElem hi
          have hil : i < ls.length := by rw [hE.len]; exact hi
          have ha : ls[i]? = some ls[i] := List.getElem?_eq_getElem hil
          generalize rs[i] = t at ht
          generalize ls[i] = a at ha
          have htm := List.mem_of_getElem? ht
          have hvl := hE.vl t htm
          have hL := hE.ld i t a ht ha
          have q4 := ((V1.same sH3).same s4).sq
          refine ⟨⟨_, _, q4, at_map ht⟩, ?_⟩
          rintro x H5 ⟨T', y, rfl, hT, rfl, hx⟩
          have ex := hx _ q4
          rw [at_map ht] at ex
          obtain rfl := Option.some.inj ex
          have s5 := same_add (o := .tup [.int (i : Nat), fRef t]) s4 hT
          have hT5 : (upd H4 T' (.tup [.int (i : Nat), fRef t])) T' = some (.tup [.int (i : Nat), fRef t]) := upd_same
          generalize upd H4 T' (.tup [.int (i : Nat), fRef t]) = H5 at s5 hT5 ⊢
          have e5 := s5 _ _ e3
          have hlL : i ≤ (ls.map fNat).length := by rw [List.length_map]; omega
          have hlL1 : i + 1 ≤ (ls.map fNat).length := by rw [List.length_map]; omega
          refine ⟨T', _, rfl, .inl (.inl hT5), rfl, _, _, rfl, _, _, rfl, rfl, ?_⟩
          refine ⟨_, rfl, _, rfl, _, rfl, E2, _, rfl, .inl (.inl e5), fun p1 hp1 => ?_⟩
          rw [cut_to hlL]
          have e6 := same_new (o := .lst ((ls.map fNat).take i)) hp1 _ _ e5
          refine ⟨_, rfl, _, rfl, _, 1, rfl, rfl, _, rfl, E2, _, rfl, .inl (.inl e6), fun p2 hp2 => ?_⟩
          rw [show (i : Int) + 1 = ((i + 1 : Nat) : Int) from rfl, cut_from hlL1]
          have s7 := (same_new (o := .lst ((ls.map fNat).take i)) hp1).trans (same_new (o := .lst ((ls.map fNat).drop (i + 1))) hp2)
          refine ⟨p1, p2, _, _, rfl, rfl, same_new hp2 _ _ upd_same, upd_same, ?_, fun g hg => ?_⟩
          · rw [List.length_take, List.length_drop, List.length_map]
            have : sizeLine ≥ 1000 := by decide
            have := hE.len
            omega
          have s8 := s7.trans (same_new (o := .lst ((ls.map fNat).take i ++ (ls.map fNat).drop (i + 1))) hg)
          have hg8 : (upd (upd (upd H5 p1 (.lst ((ls.map fNat).take i))) p2 (.lst ((ls.map fNat).drop (i + 1)))) g (.lst ((ls.map fNat).take i ++ (ls.map fNat).drop (i + 1)))) g = some (.lst ((ls.take i ++ ls.drop (i + 1)).map fNat)) := by
            rw [upd_same, List.map_append, List.map_take, List.map_drop]
          generalize upd (upd (upd H5 p1 (.lst ((ls.map fNat).take i))) p2 (.lst ((ls.map fNat).drop (i + 1)))) g (.lst ((ls.map fNat).take i ++ (ls.map fNat).drop (i + 1))) = H8 at s8 hg8 ⊢
          have s38 := s5.trans s8
          have htq := ((V1.same sH3).same s38).el t htm
          have e8 := s8 _ _ e5
          refine ⟨_, rfl, _, rfl, _, rfl, E2, _, _, _, rfl, rfl, .inl (.inl e8), atI_nat (at_map ha), t.1, _, _, _, rfl, rfl, htq, atI_getD (by have := hL.1; omega), rfl, false, ?_, iteF ?_⟩
          · rw [hE.one i t a ht ha]
            rfl
          refine ⟨_, rfl, g, rfl, ⟨_, .inl (.inl hg8)⟩, fun E3 hE3 => ?_⟩
          refine lcL (ls.take i ++ ls.drop (i + 1)) fNat (fun j H' => Same H8 H' ∧ H' E3 = some (.lst ((List.replicate j false).map V.bl))) ⟨same_new hE3, upd_same⟩ (fun j H' p => .inl (.inl (p.1 _ _ hg8))) ?_ ?_
          · rintro j b H9 hb ⟨s9, e9⟩
            have hbm := List.mem_of_getElem? hb
            have hj : j < (ls.take i ++ ls.drop (i + 1)).length := (List.getElem?_eq_some_iff.mp hb).1
            obtain ⟨j2, hj2, hne⟩ : ∃ j2, ls[j2]? = some b ∧ i ≠ j2 := by
              rcases List.mem_append.mp hbm with hm | hm
              · obtain ⟨m, hm1⟩ := List.getElem?_of_mem hm
                rw [List.getElem?_take] at hm1
                by_cases z : m < i
                · rw [if_pos z] at hm1
                  exact ⟨m, hm1, by omega⟩
                · rw [if_neg z] at hm1
                  cases hm1
              · obtain ⟨m, hm1⟩ := List.getElem?_of_mem hm
                rw [List.getElem?_drop] at hm1
                exact ⟨i + 1 + m, hm1, by omega⟩
            have hz := hE.zer i j2 t b ht hj2 hne
            have hj3 : j2 < rs.length := by rw [← hE.len]; exact (List.getElem?_eq_some_iff.mp hj2).1
            have hLb := hE.ld j2 _ b (List.getElem?_eq_getElem hj3) hj2
            have hvb := hE.vl _ (List.getElem_mem hj3)
            have hb2 : b < t.2.length := by have := hLb.1; omega
            refine ⟨rfl, _, rfl, _, rfl, t.1, _, _, _, rfl, rfl, same_sqt s9 htq, atI_getD hb2, rfl, _, e9, ?_, same_mut s9 hE3, ?_⟩
            · rw [List.length_map, List.length_replicate]
              rw [List.length_append, List.length_take, List.length_drop] at hj
              have := hE.len
              exact small1000 (by omega)
            · rw [upd_same, rep_snoc, List.map_append, hz]
              rfl
          · rintro H9 ⟨s9, e9⟩
            refine ⟨E3, List.replicate (ls.take i ++ ls.drop (i + 1)).length false, rfl, .inl (.inl e9), false, by rw [List.any_replicate]; simp, iteF ⟨_, _, _, _, rfl, s38.trans s9⟩⟩
        · rintro σ H4 ⟨v4, v5, v6, v7, rfl, s4⟩
          have e4 := s4 _ _ e3
          have q4 : SqL K H4 E2 ((ls.map (fun a : Nat => (a : Int))).map V.int) := .inl (.inl (by rw [e4, fNat_map]))
          refine ⟨⟨_, ((V1.same sH3).same s4).sq, by rw [List.length_map]; exact Nat.le_refl _⟩, ?_⟩
          refine ⟨_, rfl, _, rfl, E2, _, rfl, q4, by rw [List.length_map, hE.len]; omega, fun ys p h1 h2 h3 hp => ?_⟩
          have hys := ints_uniq (xs := ls.map (fun a : Nat => (a : Int))) (List.pairwise_map.mpr (hE.inc.imp fun h => Int.ofNat_lt.mpr h)) h1 h2 h3
          refine ⟨ls.map (fun a : Nat => (a : Int)), ys, hd_ints (same_sql (same_new hp) q4), hd_ints (.inl (.inl upd_same)), ?_⟩
          rw [decide_eq_true hys]
          exact k _ ((sH3.trans s4).trans (same_new hp))
end
end K14
/-! D21 -/
set_option Elab.async false
set_option linter.all false
set_option maxRecDepth 100000
set_option maxHeartbeats 4000000
/-! D21: the law's names. -/
namespace K14
open PySem PySem.Spec PyProof.Rows L2
/-- a letter, then at most k signs -/
def NameK (k : Nat) (z : Str) : Prop := ∃ c r, z.cps.toList = c :: r ∧ isLet c ∧ r.length ≤ k ∧ ∀ d ∈ r, isSgn d
theorem NameK.ok {k : Nat} {z : Str} (h : NameK k z) (hk : k ≤ 11) : NameOk z := by
  obtain ⟨c, r, h1, h2, h3, h4⟩ := h
  exact ⟨c, r, h1, h2, by omega, h4⟩
theorem NameK.app {k m : Nat} {z s : Str} (h : NameK k z) (hs : ∀ c ∈ s.cps.toList, isSgn c) (hl : s.length ≤ m) : NameK (k + m) (z ++ s) := by
  obtain ⟨c, r, h1, h2, h3, h4⟩ := h
  have e : (z ++ s).cps.toList = c :: (r ++ s.cps.toList) := by
    show (z.cps ++ s.cps).toList = _
    rw [Array.toList_append, h1]
    rfl
  have hl2 : s.cps.toList.length = s.length := by simp [Str.length]
  refine ⟨c, r ++ s.cps.toList, e, h2, ?_, fun d hd => ?_⟩
  · rw [List.length_append]
    omega
  · rcases List.mem_append.mp hd with hd | hd
    · exact h4 d hd
    · exact hs d hd
theorem NameK.len {k : Nat} {z : Str} (h : NameK k z) : z.length ≤ k + 1 := by
  obtain ⟨c, r, h1, h2, h3, h4⟩ := h
  have q : z.length = z.cps.toList.length := by simp [Str.length]
  rw [q, h1, List.length_cons]
  omega
theorem let_at {i : Nat} (h : i < 26) : ∃ c, atI ("abcdefghijklmnopqrstuvwxyz" : Str).cps.toList (i : Int) = some c ∧ isLet c := by
  have q : ∀ i < 26, ∃ c, c < 123 ∧ atI ("abcdefghijklmnopqrstuvwxyz" : Str).cps.toList ((i : Nat) : Int) = some c ∧ (97 ≤ c ∧ c ≤ 122) := by decide +kernel
  obtain ⟨c, _, h1, h2⟩ := q i h
  exact ⟨c, h1, h2⟩
theorem sgn_at {i : Nat} (h : i < 26) : ∃ c, atI ("abcdefghijkmnopq0123456789" : Str).cps.toList (i : Int) = some c ∧ isSgn c := by
  have q : ∀ i < 26, ∃ c, c < 123 ∧ atI ("abcdefghijkmnopq0123456789" : Str).cps.toList ((i : Nat) : Int) = some c ∧ ((97 ≤ c ∧ c ≤ 122) ∨ (48 ≤ c ∧ c ≤ 57)) := by decide +kernel
  obtain ⟨c, _, h1, h2⟩ := q i h
  exact ⟨c, h1, h2⟩
theorem num_str {j : Nat} (h : j < 90) : (Str.ofString (toString (10 + (j : Int)))).length = 2 ∧ ∀ c ∈ (Str.ofString (toString (10 + (j : Int)))).cps.toList, isSgn c := by
  have q : ∀ j < 90, (Str.ofString (toString (10 + ((j : Nat) : Int)))).length = 2 ∧ ∀ c ∈ (Str.ofString (toString (10 + ((j : Nat) : Int)))).cps.toList, ((97 ≤ c ∧ c ≤ 122) ∨ (48 ≤ c ∧ c ≤ 57)) := by decide +kernel
  exact q j h
theorem num_nd : ((List.range 6).map fun j : Nat => Str.ofString (toString (10 + (j : Int)))).Nodup := by decide +kernel
theorem app_inj {z s t : Str} (h : z ++ s = z ++ t) : s = t := by
  have h1 : z.cps ++ s.cps = z.cps ++ t.cps := congrArg Str.cps h
  have h1 := congrArg Array.toList h1
  rw [Array.toList_append, Array.toList_append] at h1
  have h2 : s.cps = t.cps := Array.ext' (List.append_cancel_left h1)
  cases s
  cases t
  exact congrArg Str.mk h2
def spareV (z : Str) : List Str := [z] ++ (List.range 90).map fun j : Nat => z ++ Str.ofString (toString (10 + (j : Int)))
theorem spare_ok {z : Str} {k : Nat} (h : NameK k z) : ∀ x ∈ spareV z, NameK (k + 2) x := by
  intro x hx
  rcases List.mem_cons.mp hx with rfl | hx
  · obtain ⟨c, r, h1, h2, h3, h4⟩ := h
    exact ⟨c, r, h1, h2, by omega, h4⟩
  · obtain ⟨j, hj, rfl⟩ := List.mem_map.mp hx
    obtain ⟨h1, h2⟩ := num_str (List.mem_range.mp hj)
    exact h.app h2 (by omega)
theorem spare_free {z : Str} {ns : List Str} (h : ns.length ≤ 5) : ∃ x ∈ spareV z, x ∉ ns := by
  refine Classical.byContradiction fun hno => ?_
  have hall : ∀ x ∈ spareV z, x ∈ ns := fun x hx => Classical.byContradiction fun z => hno ⟨x, hx, z⟩
  have nd : ((List.range 6).map fun j : Nat => z ++ Str.ofString (toString (10 + (j : Int)))).Nodup := by
    have e : ((List.range 6).map fun j : Nat => z ++ Str.ofString (toString (10 + (j : Int)))) = ((List.range 6).map fun j : Nat => Str.ofString (toString (10 + (j : Int)))).map (z ++ ·) := by rw [List.map_map]; rfl
    rw [e]
    exact List.pairwise_map.mpr (num_nd.imp fun hne e => hne (app_inj e))
  have := len_sub nd (m := ns) fun x hx => by
    obtain ⟨j, hj, rfl⟩ := List.mem_map.mp hx
    refine hall _ (List.mem_cons_of_mem _ (List.mem_map.mpr ⟨j, List.mem_range.mpr ?_, rfl⟩))
    have := List.mem_range.mp hj
    omega
  rw [List.length_map, List.length_range] at this
  omega
theorem sameB_mut {r p : Addr} {H H' : Hp} {o : HO} (s : SameB r H H') (h : H p = none) : SameB r H (upd H' p o) := fun b x n e => by
  rw [upd_ne (ne_of_none e h)]
  exact s b x n e
theorem RngAt.keep {H H' : Hp} {r : Addr} (h : RngAt H r) (s : Same H H') : RngAt H' r := by
  obtain ⟨a, b, h1, h2⟩ := h
  exact ⟨a, b, s _ _ h1, h2⟩
section
variable {P : Program} {w : World} {K : PySem.W.Frag} {mg : Str → Option Value} {base : Heap} {CS CP AM : Addr}
def spNames : Sp := fun vs H Q _ => ∃ (r lT : Addr) (n : Nat), vs = [.ref r, .int n, .ref lT] ∧ RngAt H r ∧ n ≤ 5 ∧ r ≠ lT ∧ H lT = some (.lst [.str "zzzz"]) ∧ ∀ (H' : Hp) (p : Addr) (ns : List Str), SameB r H H' → RngAt H' r → H p = none → H' p = some (.lst (ns.map V.str)) → ns.length = n → ns.Nodup → ("zzzz" : Str) ∉ ns → (∀ x ∈ ns, NameOk x) → Q (.ref p) H'
theorem ok_law_names (T : Tx K mg CS CP AM) : GN P w K mg base 2 "_law_names" spNames := by
  refine Fd.gn T.f_law_names sc_law_names (fun vs H Q E h => ?_) (fun _ _ _ _ _ _ us hl => match us, hl with | [_, _, _], _ => rfl) (fun f cdv A outer s H vs Q E hr h => ?_)
  · obtain ⟨r, lT, n, rfl, _⟩ := h
    rfl
  · obtain ⟨r, lT, n, rfl, hR, hn, hne, hT, k⟩ := h
    have hu1 := hr.units
    have hsz : sizeLine ≥ 1000000 := by decide
    refine ⟨_, (pss_cons (ps_set (i := 3) sc_law_names.nd rfl (Or.inr rfl) (pe_lst pa_nil))
      (pss_cons (ps_for PassesOwn.never rfl (pi_range1 (by rfl) T.n_range (pa_cons (pv 1) pa_nil)) (pg_name (i := 4) sc_law_names.nd rfl (Or.inl rfl) (Or.inr rfl)) (pss_cons (ps_set (i := 5) sc_law_names.nd rfl (Or.inl rfl) (pe_g (ok_law_draw T) hr (by rfl) (pa_cons (pv 0) (pa_cons pe_int pa_nil))))
      (pss_cons (ps_set (i := 6) sc_law_names.nd rfl (Or.inr rfl) (pe_ix ix_str pe_str (pe_g (ok_law_draw T) hr (by rfl) (pa_cons (pv 0) (pa_cons pe_int pa_nil))) (fun _ _ => rfl)))
      (pss_cons (ps_set (i := 6) sc_law_names.nd rfl (Or.inr rfl) (pe_op op_add_str (pv 6) (pe_join pe_str (pe_lc (own := [("_law_turn", 8)]) rfl sc_law_names.nd (pi_range1 (by rfl) T.n_range (pa_cons (pv 5) pa_nil)) (blkOk_by (N := N_law_names) (sc := defScope st_law_names) (by decide +kernel)) (fun _ _ _ _ _ => (pg_name (i := 8) sc_law_names.nd rfl (Or.inl rfl) (Or.inr rfl))) (fun _ _ _ _ _ => pts_nil) (fun _ _ _ _ _ => (pe_ix ix_str pe_str (pe_g (ok_law_draw T) hr (by rfl) (pa_cons (pv 0) (pa_cons pe_int pa_nil))) (fun _ _ => rfl)))))))
      (pss_cons (ps_set (i := 7) sc_law_names.nd rfl (Or.inl rfl) (pe_op op_cat (pe_lst (pa_cons (pv 6) pa_nil)) (pe_lc (own := [("_law_turn", 8)]) rfl sc_law_names.nd (pi_range2 (by rfl) T.n_range (pa_cons pe_int (pa_cons pe_int pa_nil))) (blkOk_by (N := N_law_names) (sc := defScope st_law_names) (by decide +kernel)) (fun _ _ _ _ _ => (pg_name (i := 8) sc_law_names.nd rfl (Or.inl rfl) (Or.inr rfl))) (fun _ _ _ _ _ => pts_nil) (fun _ _ _ _ _ => (pe_op op_add_str (pv 6) (pe_callTy call_str_int (by rfl) T.n_str bo_str (pa_cons (pv 8) pa_nil)))))))
      (pss_one (ps_expr (pe_bm PySem.F.plainAttrs_list PySem.F.slot_list_append PySem.F.type_list_append mt_append (pv 3) (pa_cons (pe_ix ix_list (pe_lc (own := [("_law_one", 9)]) rfl sc_law_names.nd (pi_list (pv 7)) (blkOk_by (N := N_law_names) (sc := defScope st_law_names) (by decide +kernel)) (fun _ _ _ _ _ => (pg_name (i := 9) sc_law_names.nd rfl (Or.inl rfl) (Or.inr rfl))) (fun _ _ _ _ _ => (pts_one (PW.pt (pw_and (pt_cmpR (op_notInT Str hu1 (K := K)) (pv 9) (pv 3) rfl) (pw_and1 (pt_cmpR (op_notInT Str hu1 (K := K)) (pv 9) (pv 2) rfl)))))) (fun _ _ _ _ _ => (pv 9))) pe_int (fun _ _ => rfl)) pa_nil)))))))))
      (pss_one (ps_ret (pv 3))))), ?_⟩
    refine ⟨Nat.zero_le _, fun F hF => ?_⟩
    have hrF : r ≠ F := by
      obtain ⟨a, b, h1, _⟩ := hR
      exact ne_of_none h1 hF
    have hTF : lT ≠ F := ne_of_none hT hF
    refine ⟨_, rfl, n, rfl, by omega, by omega, ?_⟩
    refine forR n (fun i σ H' => ∃ v4 v5 v6 v7 v8 v9 ns, σ = [some (.ref r), some (.int n), some (.ref lT), some (.ref F), v4, v5, v6, v7, v8, v9] ∧ SameB r H H' ∧ RngAt H' r ∧ H' F = some (.lst (ns.map V.str)) ∧ ns.length = i ∧ ns.Nodup ∧ ("zzzz" : Str) ∉ ns ∧ ∀ x ∈ ns, NameOk x) ⟨none, none, none, none, none, none, [], rfl, same_b (same_new hF), hR.keep (same_new hF), upd_same, rfl, List.nodup_nil, (fun h => nomatch h), (fun x h => nomatch h)⟩ ?_ ?_
    · rintro i σ H2 hi ⟨v4, v5, v6, v7, v8, v9, ns, rfl, s2, R2, eF, hnl, hnd, hnz, hno⟩
      refine ⟨_, rfl, r, 3, rfl, by omega, by omega, R2, fun H3 size b0 b1 s3 R3 => ?_⟩
      refine ⟨_, rfl, r, 26, rfl, by omega, by omega, R3, fun H4 d d0 d1 s4 R4 => ?_⟩
      obtain ⟨d, rfl⟩ := Int.eq_ofNat_of_zero_le d0
      obtain ⟨c, hc, hcl⟩ := let_at (i := d) (by omega)
      refine ⟨_, _, c, rfl, rfl, (by decide), hc, ?_⟩
      obtain ⟨size, rfl⟩ := Int.eq_ofNat_of_zero_le b0
      have hz1 : NameK 0 (⟨#[c]⟩ : Str) := ⟨c, [], rfl, hcl, Nat.le_refl _, fun d h => nomatch h⟩
      generalize (⟨#[c]⟩ : Str) = z1 at hz1 ⊢
      refine ⟨_, rfl, ⟨_, rfl⟩, _, rfl, size, rfl, by omega, by omega, fun E1 hE1 => ?_⟩
      have s24 : SameB r H2 H4 := s3.trans s4
      have F4 := s24 _ _ (Ne.symm hrF) eF
      refine lcR size (fun j H' => ∃ ys : List Str, SameB r H4 H' ∧ RngAt H' r ∧ H' E1 = some (.lst (ys.map V.str)) ∧ ys.length = j ∧ ∀ y ∈ ys, y.length = 1 ∧ ∀ c ∈ y.cps.toList, isSgn c) ⟨[], same_b (same_new hE1), R4.keep (same_new hE1), upd_same, rfl, (fun y h => nomatch h)⟩ ?_ ?_
      · rintro j H5 hj ⟨ys, s5, R5, e5, l5, h5⟩
        refine ⟨rfl, _, rfl, r, 26, rfl, by omega, by omega, R5, fun H6 d2 d20 d21 s6 R6 => ?_⟩
        obtain ⟨d2, rfl⟩ := Int.eq_ofNat_of_zero_le d20
        obtain ⟨c2, hc2, hcs⟩ := sgn_at (i := d2) (by omega)
        have hrE : E1 ≠ r := fun z => by
          obtain ⟨a, b, h1, _⟩ := R4
          rw [← z, hE1] at h1
          cases h1
        have e6 := s6 _ _ hrE e5
        refine ⟨_, _, c2, rfl, rfl, (by decide), hc2, _, e6, ?_, ys ++ [⟨#[c2]⟩], sameB_mut (s5.trans s6) hE1, ?_, ?_, ?_, fun y hy => ?_⟩
        · rw [List.length_map]
          exact small1000 (by omega)
        · obtain ⟨a, b, h1, h2⟩ := R6
          exact ⟨a, b, by rw [upd_ne (Ne.symm hrE)]; exact h1, h2⟩
        · rw [upd_same, List.map_append]
          rfl
        · rw [List.length_append, l5]
          rfl
        · rcases List.mem_append.mp hy with hy | hy
          · exact h5 y hy
          · rw [List.mem_singleton.mp hy]
            refine ⟨rfl, fun c hc => ?_⟩
            rw [List.mem_singleton.mp hc]
            exact hcs
      rintro H5 ⟨ys, s5, R5, e5, l5, h5⟩
      have hsum : ∀ zs : List Str, (∀ y ∈ zs, y.length = 1) → (zs.map (·.length)).sum = zs.length := by
        intro zs
        induction zs with
        | nil => intro _; rfl
        | cons y zs ih =>
          intro h
          rw [List.map_cons, List.sum_cons, ih fun y hy => h y (List.mem_cons_of_mem _ hy), h y List.mem_cons_self, List.length_cons]
          omega
      have hsm := hsum ys fun y hy => (h5 y hy).1
      have hjl : (Txt.join ("" : Str) ys).length ≤ 2 := by
        rw [show Txt.join ("" : Str) ys = Builtin.Str.glued ("" : Str) ys from rfl, size_glued, hsm]
        show ys.length + (ys.length - 1) * 0 ≤ 2
        omega
      have hjs : ∀ c ∈ (Txt.join ("" : Str) ys).cps.toList, isSgn c := fun c hc => by
        rw [show Txt.join ("" : Str) ys = Str.join ("" : Str) ys from StrLaws.glued_eq_join _ _] at hc
        rcases (mem_join _ c ys).mp hc with ⟨y, hy, hcy⟩ | ⟨_, h⟩
        · exact (h5 y hy).2 c hcy
        · exact absurd h (fun h => nomatch (show c ∈ ([] : List Nat) from h))
      refine ⟨_, E1, ys, rfl, rfl, .inl (.inl (.inl e5)), ?_, ?_⟩
      · rw [hsm]
        show ys.length + ys.length * 0 ≤ _
        omega
      have hz2 := hz1.app hjs hjl
      refine ⟨_, _, rfl, rfl, by have := hz1.len; omega, ?_⟩
      generalize z1 ++ Txt.join ("" : Str) ys = z2 at hz2 ⊢
      have s25 : SameB r H2 H5 := s24.trans s5
      refine ⟨_, rfl, (by show 1 ≤ sizeLine; omega), fun g hg => ⟨10, 100, rfl, by omega, fun E2 hE2 => ?_⟩⟩
      have hz2l := hz2.len
      refine lcR ((100 : Int) - 10).toNat (fun j H' => Same (upd H5 g (.lst [.str z2])) H' ∧ H' E2 = some (.lst (((List.range j).map fun j : Nat => z2 ++ Str.ofString (toString (10 + (j : Int)))).map V.str))) ⟨same_new hE2, by rw [upd_same]; rfl⟩ ?_ ?_
      · rintro j H6 hj ⟨s6, e6⟩
        have hj : j < 90 := hj
        obtain ⟨n1, n2⟩ := num_str hj
        refine ⟨rfl, _, rfl, _, rfl, _, rfl, ?_, _, _, rfl, rfl, ?_, _, e6, ?_, same_mut s6 hE2, ?_⟩
        · have : (10 + (j : Int)).natAbs < 2 ^ 1919 := Nat.lt_of_lt_of_le (show (10 + (j : Int)).natAbs < 2 ^ 7 by omega) (Nat.pow_le_pow_right (by decide) (by decide))
          have h0 : (10 + (j : Int)).natAbs ≠ 0 := by omega
          have := (Nat.log2_lt h0).mpr this
          omega
        · show z2.length + (Str.ofString (toString (10 + (j : Int)))).length ≤ sizeLine
          omega
        · rw [List.length_map, List.length_map, List.length_range]
          exact small1000 (by omega)
        · rw [upd_same, List.range_succ, List.map_append, List.map_append]
          rfl
      rintro H6 ⟨s6, e6⟩
      have e6 : H6 E2 = some (.lst (((List.range 90).map fun j : Nat => z2 ++ Str.ofString (toString (10 + (j : Int)))).map V.str)) := e6
      have g6 := s6 _ _ upd_same
      refine ⟨g, E2, _, _, rfl, rfl, g6, e6, ?_, fun p hp => ?_⟩
      · rw [List.length_map, List.length_map, List.length_range]
        show 1 + 90 ≤ sizeLine
        omega
      have hp7 : (upd H6 p (.lst ([V.str z2] ++ ((List.range 90).map fun j : Nat => z2 ++ Str.ofString (toString (10 + (j : Int)))).map V.str))) p = some (.lst ((spareV z2).map V.str)) := by
        rw [upd_same, spareV, List.map_append]
        rfl
      have s57 : Same H5 (upd H6 p (.lst ([V.str z2] ++ ((List.range 90).map fun j : Nat => z2 ++ Str.ofString (toString (10 + (j : Int)))).map V.str))) := ((same_new hg).trans s6).trans (same_new hp)
      generalize upd H6 p (.lst ([V.str z2] ++ ((List.range 90).map fun j : Nat => z2 ++ Str.ofString (toString (10 + (j : Int)))).map V.str)) = H7 at hp7 s57 ⊢
      have s27 : SameB r H2 H7 := s25.trans (same_b s57)
      have F7 := s27 _ _ (Ne.symm hrF) eF
      have T7 := s27 _ _ (Ne.symm hne) (s2 _ _ (Ne.symm hne) hT)
      refine ⟨_, rfl, .inl ⟨rfl, _, .inl (.inl F7)⟩, ?_⟩
      refine ⟨_, rfl, p, rfl, ⟨_, .inl (.inl hp7)⟩, fun E3 hE3 => ?_⟩
      have hfree := spare_free (z := z2) (ns := ns ++ [("zzzz" : Str)]) (by rw [List.length_append]; show ns.length + 1 ≤ 5; omega)
      have hslen : (spareV z2).length = 91 := by
        rw [spareV, List.length_append, List.length_map, List.length_range]
        rfl
      refine lcL (spareV z2) V.str (fun j H' => Same H7 H' ∧ H' E3 = some (.lst ((((spareV z2).take j).filter fun x => decide (x ∉ ns ++ [("zzzz" : Str)])).map V.str))) ⟨same_new hE3, upd_same⟩ (fun j H' q => .inl (.inl (q.1 _ _ hp7))) ?_ ?_
      · rintro j x H8 hx ⟨s8, e8⟩
        have hj : j < 91 := by rw [← hslen]; exact (List.getElem?_eq_some_iff.mp hx).1
        have er : ((spareV z2).take (j + 1)).filter (fun x => decide (x ∉ ns ++ [("zzzz" : Str)])) = ((spareV z2).take j).filter (fun x => decide (x ∉ ns ++ [("zzzz" : Str)])) ++ if x ∉ ns ++ [("zzzz" : Str)] then [x] else [] := by
          rw [take_snoc hx, List.filter_append, List.filter_cons]
          by_cases z : x ∉ ns ++ [("zzzz" : Str)]
          · rw [if_pos z, if_pos (decide_eq_true z)]
            rfl
          · rw [if_neg z, if_neg (by simpa using z)]
            rfl
        refine ⟨rfl, _, rfl, _, rfl, x, ns, F, _, hd_str x, rfl, .inl (.inl (s8 _ _ F7)), dpAll_strs ns, _, rfl, ite2 (fun h1 => ?_) (fun h1 => ?_)⟩
        · have h1 := of_decide_eq_true h1
          refine ⟨_, rfl, _, rfl, x, ["zzzz"], lT, _, hd_str x, rfl, .inl (.inl (s8 _ _ T7)), dpAll_strs ["zzzz"], _, rfl, ite2 (fun h2 => ?_) (fun h2 => ?_)⟩
          · have h2 := of_decide_eq_true h2
            have h3 : x ∉ ns ++ [("zzzz" : Str)] := fun h => (List.mem_append.mp h).elim h1 h2
            refine ⟨_, rfl, _, e8, ?_, same_mut s8 hE3, ?_⟩
            · rw [List.length_map]
              have q1 := List.length_filter_le (fun x => decide (x ∉ ns ++ [("zzzz" : Str)])) ((spareV z2).take j)
              have q2 : ((spareV z2).take j).length ≤ j := by rw [List.length_take]; omega
              exact small1000 (by omega)
            · rw [upd_same, er, if_pos h3, List.map_append]
              rfl
          · have h3 : ¬ (x ∉ ns ++ [("zzzz" : Str)]) := fun h => h2 (decide_eq_true fun z => h (List.mem_append_right _ z))
            refine ⟨s8, ?_⟩
            rw [er, if_neg h3, List.append_nil]
            exact e8
        · have h3 : ¬ (x ∉ ns ++ [("zzzz" : Str)]) := fun h => h1 (decide_eq_true fun z => h (List.mem_append_left _ z))
          refine ⟨s8, ?_⟩
          rw [er, if_neg h3, List.append_nil]
          exact e8
      · rintro H8 ⟨s8, e8⟩
        rw [List.take_length] at e8
        obtain ⟨x0, hx0, hx1⟩ := hfree
        have hpos := List.length_pos_of_mem (List.mem_filter.mpr ⟨hx0, decide_eq_true hx1⟩ : x0 ∈ (spareV z2).filter fun x => decide (x ∉ ns ++ [("zzzz" : Str)]))
        have hat := List.getElem?_eq_getElem hpos
        generalize ((spareV z2).filter fun x => decide (x ∉ ns ++ [("zzzz" : Str)]))[0] = x at hat
        obtain ⟨hxm, hxn⟩ := List.mem_filter.mp (List.mem_of_getElem? hat)
        have hxn := of_decide_eq_true hxn
        have F8 := s8 _ _ F7
        have R7 := R5.keep s57
        refine ⟨E3, _, 0, _, rfl, rfl, .inl (.inl e8), atI_nat (i := 0) (at_map hat), F, _, _, rfl, rfl, F8, ?_, ?_⟩
        · rw [List.length_map]
          exact small1000 (by omega)
        · refine ⟨_, _, _, _, _, _, ns ++ [x], rfl, sameB_mut ((s2.trans s27).trans (same_b s8)) hF, ?_, ?_, ?_, ?_, ?_, ?_⟩
          · obtain ⟨a, b, g1, g2⟩ := R7.keep s8
            exact ⟨a, b, by rw [upd_ne hrF]; exact g1, g2⟩
          · rw [upd_same, List.map_append]
            rfl
          · rw [List.length_append, hnl]
            rfl
          · refine List.nodup_append.mpr ⟨hnd, (List.pairwise_singleton _ x), fun a ha b hb e => ?_⟩
            rw [List.mem_singleton.mp hb] at e
            exact hxn (List.mem_append_left _ (e ▸ ha))
          · intro h
            rcases List.mem_append.mp h with h | h
            · exact hnz h
            · exact hxn (List.mem_append_right _ (by rw [← List.mem_singleton.mp h]; exact List.mem_cons_self))
          · intro y hy
            rcases List.mem_append.mp hy with hy | hy
            · exact hno y hy
            · rw [List.mem_singleton.mp hy]
              exact (spare_ok hz2 x hxm).ok (by omega)
    · rintro σ H2 ⟨v4, v5, v6, v7, v8, v9, ns, rfl, s2, R2, eF, hnl, hnd, hnz, hno⟩
      exact ⟨_, rfl, k H2 F ns s2 R2 hF eF hnl hnd hnz hno⟩
end
end K14
/-! D22 -/
set_option Elab.async false
set_option linter.all false
set_option maxRecDepth 100000
set_option maxHeartbeats 4000000
/-! D22: the law's other rows. -/
namespace K14
open PySem PySem.Spec PyProof.Rows L2
def Vec (n : Nat) (q : Int) (v : List Int) : Prop := v.length = n + 1 ∧ ∀ d ∈ v, 0 ≤ d ∧ d < q
theorem plus_vec {n : Nat} {q b : Int} {v u : List Int} (hq : 0 < q) (h1 : v.length = n + 1) (h2 : u.length = n + 1) : Vec n q (plusV b q v u) := by
  refine ⟨plus_len h1 h2, fun d hd => ?_⟩
  obtain ⟨i, hi, e⟩ := List.getElem_of_mem hd
  rw [List.getElem_zipWith] at e
  rw [← e]
  exact ⟨Int.emod_nonneg _ (by omega), Int.emod_lt_of_pos _ hq⟩
theorem lastV_vec {n : Nat} {q : Int} (hq : 2 ≤ q) : Vec n q (List.replicate n 0 ++ [1]) := by
  refine ⟨by rw [List.length_append, List.length_replicate]; rfl, fun d hd => ?_⟩
  rcases List.mem_append.mp hd with hd | hd
  · rw [List.eq_of_mem_replicate hd]
    omega
  · rw [List.mem_singleton.mp hd]
    omega
theorem VL.keepB {K : PySem.W.Frag} {H H' : Hp} {l r : Addr} {rs : Tl} (h : VL K H l rs) (s : SameB r H H') (hr : RngAt H r) (n : l ≠ r) : VL K H' l rs := by
  obtain ⟨a, b, h1, _⟩ := hr
  exact h.keep s h1 n
theorem sqt_keepB {K : PySem.W.Frag} {H H' : Hp} {a r : Addr} {xs : List V} (h : SqT K H a xs) (s : SameB r H H') (hr : RngAt H r) : SqT K H' a xs := by
  obtain ⟨a, b, h1, _⟩ := hr
  exact sqt_keep s h1 h
theorem RngAt.upd {H : Hp} {r p : Addr} {o : HO} (h : RngAt H r) (n : r ≠ p) : RngAt (L2.upd H p o) r := by
  obtain ⟨a, b, h1, h2⟩ := h
  exact ⟨a, b, by rw [upd_ne n]; exact h1, h2⟩
theorem RngAt.ne {H : Hp} {r p : Addr} (h : RngAt H r) (hp : H p = none) : r ≠ p := by
  obtain ⟨a, b, h1, h2⟩ := h
  exact ne_of_none h1 hp
/-- no list that a heap does not know is drawn from it -/
theorem noneB {r p : Addr} {H H' : Hp} (s : SameB r H H') (n : p ≠ r) (h : H' p = none) : H p = none := by
  cases e : H p with
  | none => rfl
  | some o =>
    rw [s _ _ n e] at h
    cases h
section
variable {P : Program} {w : World} {K : PySem.W.Frag} {mg : Str → Option Value} {base : Heap} {CS CP AM : Addr}
def spOther (K : PySem.W.Frag) : Sp := fun vs H Q _ => ∃ (r l : Addr) (rs : Tl) (n : Nat) (q : Int), vs = [.ref r, .ref l, .int n, .int q] ∧ RngAt H r ∧ VL K H l rs ∧ rs.length ≤ 4 ∧ (∀ t ∈ rs, Vec n q t.2) ∧ l ≠ r ∧ Qn q n ∧
  ∀ (H' : Hp) (p : Addr) (rs' : Tl), SameB r H H' → RngAt H' r → H p = none → VL K H' p rs' → rs'.length = rs.length + 1 → (∀ t ∈ rs', Vec n q t.2) → Q (.ref p) H'
theorem ok_law_other_rows (T : Tx K mg CS CP AM) : GN P w K mg base 3 "_law_other_rows" (spOther K) := by
  refine Fd.gn T.f_law_other_rows sc_law_other_rows (fun vs H Q E h => ?_) (fun _ _ _ _ _ _ us hl => match us, hl with | [_, _, _, _], _ => rfl) (fun f cdv A outer s H vs Q E hr h => ?_)
  · obtain ⟨r, l, rs, n, q, rfl, _⟩ := h
    rfl
  · obtain ⟨r, l, rs, n, q, rfl, hR, hV, hlen, hvec, hlr, hq, k⟩ := h
    have hsz : sizeLine ≥ 1000000 := by decide
    obtain ⟨q2, q5, qn⟩ := hq.1.le
    obtain ⟨_, hn1, _, hn5⟩ := hq
    refine ⟨_, (pss_cons (ps_setLc (i := 4) (own := [("_law_row_here", 7)]) rfl sc_law_other_rows.nd rfl rfl (sw_true rfl rfl rfl (by decide +kernel)) (pi_list (pv 1)) (blkOk_by (N := N_law_other_rows) (sc := defScope st_law_other_rows) (by decide +kernel)) (fun _ _ _ _ _ => (pg_name (i := 7) sc_law_other_rows.nd rfl (Or.inl rfl) (Or.inr rfl))) (fun _ _ _ _ _ => pts_nil) (fun _ _ _ _ _ => (pe_g (ok_law_plus T) hr (by rfl) (pa_cons (pv 7) (pa_cons (pv 7) (pa_cons (pe_g (ok_law_draw T) hr (by rfl) (pa_cons (pv 0) (pa_cons (pv 3) pa_nil))) (pa_cons (pv 3) pa_nil)))))))
      (pss_cons (ps_for PassesOwn.never rfl (pi_range1 (by rfl) T.n_range (pa_cons (pe_g (ok_law_draw T) hr (by rfl) (pa_cons (pv 0) (pa_cons pe_int pa_nil))) pa_nil)) (pg_name (i := 5) sc_law_other_rows.nd rfl (Or.inl rfl) (Or.inr rfl)) (pss_one (ps_if (pt_cmpR op_gt (pe_callB call_len_seq (by rfl) T.n_len bo_len (pa_cons (pv 4) pa_nil)) pe_int (nomark _)) (pss_cons (ps_set (i := 6) sc_law_other_rows.nd rfl (Or.inl rfl) (pe_g (ok_law_draw T) hr (by rfl) (pa_cons (pv 0) (pa_cons (pe_op op_sub (pe_callB call_len_seq (by rfl) T.n_len bo_len (pa_cons (pv 4) pa_nil)) pe_int) pa_nil))))
      (pss_one (ps_asg (pe_g (ok_law_plus T) hr (by rfl) (pa_cons (pe_ix ix_list (pv 4) (pv 6) (fun _ _ => rfl)) (pa_cons (pe_ix ix_list (pv 4) (pe_op op_add (pv 6) pe_int) (fun _ _ => rfl)) (pa_cons (pe_op op_add pe_int (pe_g (ok_law_draw T) hr (by rfl) (pa_cons (pv 0) (pa_cons (pe_op op_sub (pv 3) pe_int) pa_nil)))) (pa_cons (pv 3) pa_nil))))) (pg_sub (pv 4) (pv 6) set_list)))) pss_nil)))
      (pss_one (ps_ret (pe_op op_cat (pe_revL (pv 4)) (pe_lst (pa_cons (pe_g (ok_law_choice T) hr (by rfl) (pa_cons (pv 0) (pa_cons (pe_op op_cat (pe_lst (pa_cons (pe_op op_catB (pe_op op_repB (pe_tup (pa_cons pe_int pa_nil)) (pv 2)) (pe_tup (pa_cons pe_int pa_nil))) pa_nil)) (pv 1)) pa_nil))) pa_nil))))))), ?_⟩
    refine ⟨_, rfl, l, rfl, ⟨_, hV.sq⟩, fun F hF => ?_⟩
    have hrF := hR.ne hF
    have hlF : l ≠ F := ne_of_none hV.at_ hF
    refine lcL rs fRef (fun i H' => ∃ fs : Tl, SameB r H H' ∧ RngAt H' r ∧ VL K H' F fs ∧ fs.length = i ∧ ∀ t ∈ fs, Vec n q t.2) ⟨[], same_b (same_new hF), hR.upd hrF, ⟨upd_same, fun t ht => nomatch ht⟩, rfl, (fun t ht => nomatch ht)⟩ (fun i H' p => ?_) ?_ ?_
    · obtain ⟨fs, s2, _⟩ := p
      exact (hV.keepB s2 hR hlr).sq
    · rintro i t H2 ht ⟨fs, s2, R2, V2, l2, v2⟩
      have htm := List.mem_of_getElem? ht
      have hi : i < rs.length := (List.getElem?_eq_some_iff.mp ht).1
      have htl := (hvec t htm).1
      refine ⟨rfl, _, rfl, _, rfl, _, rfl, _, rfl, r, q, rfl, by omega, by omega, R2, fun H3 d d0 d1 s3 R3 => ?_⟩
      have htq := (hV.keepB (s2.trans s3) hR hlr).el t htm
      refine ⟨_, rfl, t.1, t.1, t.2, t.2, d, q, rfl, htq, htq, rfl, by omega, by omega, by omega, by omega, fun H4 p s4 hp e4 => ?_⟩
      have V4 := (V2.keepB s3 R2 hrF.symm).same s4
      refine ⟨_, V4.at_, ?_, fs ++ [(p, plusV d q t.2 t.2)], sameB_mut ((s2.trans s3).trans (same_b s4)) hF, (R3.keep s4).upd hrF, V4.snoc (.inl (.inl e4)), ?_, fun u hu => ?_⟩
      · rw [List.length_map]
        exact small1000 (by omega)
      · rw [List.length_append, l2]
        rfl
      · rcases List.mem_append.mp hu with hu | hu
        · exact v2 u hu
        · rw [List.mem_singleton.mp hu]
          exact plus_vec (by omega) htl htl
    · rintro H2 ⟨fs, s2, R2, V2, l2, v2⟩
      refine ⟨_, rfl, r, 3, rfl, by omega, by omega, R2, fun H3 m m0 m1 s3 R3 => ?_⟩
      obtain ⟨m, rfl⟩ := Int.eq_ofNat_of_zero_le m0
      refine ⟨m, rfl, by omega, by omega, ?_⟩
      refine forR m (fun i σ H' => ∃ v5 v6 v7, ∃ fs : Tl, σ = [some (.ref r), some (.ref l), some (.int n), some (.int q), some (.ref F), v5, v6, v7] ∧ SameB r H H' ∧ RngAt H' r ∧ VL K H' F fs ∧ fs.length = rs.length ∧ ∀ t ∈ fs, Vec n q t.2) ⟨none, none, none, fs, rfl, s2.trans s3, R3, V2.keepB s3 R2 hrF.symm, l2, v2⟩ ?_ ?_
      · rintro i σ H4 hi ⟨v5, v6, v7, fs, rfl, s4, R4, V4, l4, v4⟩
        refine ⟨_, rfl, F, _, rfl, .inl V4.sq, _, _, rfl, rfl, _, rfl, ite2 (fun hgt => ?_) (fun _ => ⟨_, _, _, fs, rfl, s4, R4, V4, l4, v4⟩)⟩
        have hgt : 1 < fs.length := by
          have := of_decide_eq_true hgt
          rw [List.length_map] at this
          omega
        refine ⟨_, rfl, _, rfl, F, _, rfl, .inl V4.sq, _, 1, rfl, rfl, r, _, rfl, ?_, ?_, R4, fun H5 a a0 a1 s5 R5 => ?_⟩
        · rw [List.length_map]
          omega
        · rw [List.length_map]
          omega
        rw [List.length_map] at a1
        obtain ⟨a, rfl⟩ := Int.eq_ofNat_of_zero_le a0
        have V5 := V4.keepB s5 R4 hrF.symm
        have h1 : fs[a]? = some (fs[a]'(by omega)) := List.getElem?_eq_getElem (by omega)
        have h2 : fs[a + 1]? = some (fs[a + 1]'(by omega)) := List.getElem?_eq_getElem (by omega)
        generalize fs[a]'(by omega) = t1 at h1
        generalize fs[a + 1]'(by omega) = t2 at h2
        have m1' := List.mem_of_getElem? h1
        have m2' := List.mem_of_getElem? h2
        refine ⟨_, rfl, _, rfl, F, _, _, _, rfl, rfl, V5.sq, atI_nat (at_map h1), _, rfl, _, rfl, _, 1, rfl, rfl, F, _, ((a + 1 : Nat) : Int), _, rfl, rfl, V5.sq, atI_nat (at_map h2), _, rfl, _, rfl, _, 1, rfl, rfl, r, _, rfl, by omega, by omega, R5, fun H6 b b0 b1 s6 R6 => ?_⟩
        have V6 := V5.keepB s6 R5 hrF.symm
        refine ⟨1, b, rfl, rfl, _, rfl, t1.1, t2.1, t1.2, t2.2, _, q, rfl, V6.el _ m1', V6.el _ m2', by rw [(v4 _ m1').1, (v4 _ m2').1], by have := (v4 _ m1').1; omega, by omega, by omega, by omega, fun H7 p s7 hp e7 => ?_⟩
        have V7 := V6.same s7
        refine ⟨_, rfl, _, rfl, F, _, _, a, rfl, rfl, V7.at_, ?_, ?_⟩
        · unfold ixN
          rw [if_pos (by omega), List.length_map, if_pos (by omega), Int.toNat_natCast]
        · refine ⟨_, _, _, fs.set a (p, plusV (1 + b) q t1.2 t2.2), rfl, sameB_mut (((s4.trans s5).trans s6).trans (same_b s7)) hF, (R6.keep s7).upd hrF, ⟨?_, ?_⟩, ?_, ?_⟩
          · rw [upd_same, List.map_set]
          · intro u hu
            rcases List.mem_or_eq_of_mem_set hu with hu | hu
            · exact sqt_keep sameB_upd V7.at_ (V7.el u hu)
            · rw [hu]
              exact sqt_keep sameB_upd V7.at_ (.inl (.inl e7))
          · rw [List.length_set, l4]
          · intro u hu
            rcases List.mem_or_eq_of_mem_set hu with hu | hu
            · exact v4 u hu
            · rw [hu]
              exact plus_vec (by omega) (v4 _ m1').1 (v4 _ m2').1
      · rintro σ H4 ⟨v5, v6, v7, fs, rfl, s4, R4, V4, l4, v4⟩
        refine ⟨_, rfl, F, _, rfl, V4.sq, fun p1 hp1 => ?_⟩
        have s5 := same_new (o := .lst (fs.map fRef).reverse) hp1
        have hp1' : (upd H4 p1 (.lst (fs.map fRef).reverse)) p1 = some (.lst (fs.reverse.map fRef)) := by rw [upd_same, List.map_reverse]
        generalize upd H4 p1 (.lst (fs.map fRef).reverse) = H5 at s5 hp1' ⊢
        have V5r : VL K H5 p1 fs.reverse := ⟨hp1', fun t ht => (V4.el.same s5) t (List.mem_reverse.mp ht)⟩
        have R5 := R4.keep s5
        have hlV : VL K H5 l rs := (hV.keepB s4 hR hlr).same s5
        refine ⟨_, rfl, (by show 1 ≤ sizeLine; omega), fun d2 hd2 => ⟨_, rfl, d2, _, _, rfl, rfl, .inl (.inl upd_same), (by simp), by omega, by omega, (by show 1 ≤ 1000; decide), fun a1 H6 s6 hq6 => ⟨(by show 1 ≤ sizeLine; omega), fun d3 hd3 => ?_⟩⟩⟩
        rw [show ((n : Int)).toNat = n from by omega, rep_flat] at hq6
        refine ⟨a1, d3, _, _, rfl, rfl, same_sqt (same_new hd3) hq6, .inl (.inl upd_same), ?_, fun a2 H7 s7 hq7 => ⟨(by show 1 ≤ sizeLine; omega), fun G hG => ?_⟩⟩
        · rw [List.length_map, List.length_replicate]
          show n + 1 ≤ sizeLine
          omega
        have hq7 : SqT K H7 a2 ((List.replicate n (0 : Int) ++ [1]).map V.int) := by
          rw [List.map_append]
          exact hq7
        have s57 : Same H5 H7 := (((same_new hd2).trans s6).trans (same_new hd3)).trans s7
        have s58 := s57.trans (same_new (o := .lst [.ref a2]) hG)
        refine ⟨_, rfl, G, l, _, _, rfl, rfl, upd_same, (hlV.same s58).at_, ?_, fun p2 hp2 => ?_⟩
        · rw [List.length_map]
          show 1 + rs.length ≤ sizeLine
          omega
        have s59 := s58.trans (same_new (o := .lst ([.ref a2] ++ rs.map fRef)) hp2)
        have V9 : VL K (upd (upd H7 G (.lst [.ref a2])) p2 (.lst ([.ref a2] ++ rs.map fRef))) p2 ((a2, List.replicate n 0 ++ [1]) :: rs) := ⟨upd_same, fun t ht => by
          rcases List.mem_cons.mp ht with e | ht
          · rw [e]
            exact same_sqt ((same_new hG).trans (same_new hp2)) hq7
          · exact (hlV.same s59).el t ht⟩
        have hrp2 : r ≠ p2 := (R5.keep s58).ne hp2
        generalize upd (upd H7 G (.lst [.ref a2])) p2 (.lst ([.ref a2] ++ rs.map fRef)) = H9 at s59 V9 ⊢
        have R9 := R5.keep s59
        refine ⟨r, p2, _, rfl, R9, V9.sq, hrp2.symm, (by simp), by rw [List.length_map]; show rs.length + 1 ≤ 1000; omega, fun H10 x hx s10 R10 => ?_⟩
        obtain ⟨t, ht, rfl⟩ := List.mem_map.mp hx
        have htq := (V9.keepB s10 R9 hrp2.symm).el t ht
        refine ⟨(by show 1 ≤ sizeLine; omega), fun g hg => ?_⟩
        have s11 := same_new (o := .lst [fRef t]) hg
        have V11 := ((V5r.same s59).keepB s10 R9 (fun e => by
          have := R5.keep (fun _ _ h => h)
          rw [e] at hp1
          obtain ⟨a, b, h1, _⟩ := R4
          rw [h1] at hp1
          cases hp1)).same s11
        refine ⟨p1, g, _, _, rfl, rfl, V11.at_, upd_same, ?_, fun p3 hp3 => ?_⟩
        · rw [List.length_map, List.length_reverse]
          show fs.length + 1 ≤ sizeLine
          omega
        have s412 : SameB r H4 (upd (upd H10 g (.lst [fRef t])) p3 (.lst (fs.reverse.map fRef ++ [fRef t]))) := (((same_b (s5.trans s59)).trans s10).trans (same_b s11)).trans (same_b (same_new hp3))
        have hr3 : p3 ≠ r := fun e => by
          obtain ⟨a, b, h1, _⟩ := R10.keep s11
          rw [e, h1] at hp3
          cases hp3
        refine k _ p3 (fs.reverse ++ [t]) (s4.trans s412) ((R10.keep s11).keep (same_new hp3)) (noneB (((s4.trans (same_b (s5.trans s59))).trans s10).trans (same_b s11)) hr3 hp3) ⟨?_, ?_⟩ ?_ ?_
        · rw [upd_same, List.map_append]
          rfl
        · intro u hu
          rcases List.mem_append.mp hu with hu | hu
          · exact (V11.same (same_new hp3)).el u hu
          · rw [List.mem_singleton.mp hu]
            exact same_sqt (s11.trans (same_new hp3)) htq
        · rw [List.length_append, List.length_reverse, l4]
          rfl
        · intro u hu
          rcases List.mem_append.mp hu with hu | hu
          · exact v4 u (List.mem_reverse.mp hu)
          · rw [List.mem_singleton.mp hu]
            rcases List.mem_cons.mp ht with e | ht
            · rw [e]
              exact lastV_vec q2
            · exact hvec t ht
end
end K14
/-! M3 -/
set_option Elab.async false
set_option linter.all false
set_option maxRecDepth 100000
set_option maxHeartbeats 4000000
/-! M3: lists of vectors closed under combinations; their size. -/
namespace K14
open PySem PySem.Spec PyProof.Rows L2
theorem toF_plus {b q : Int} : ∀ {ns : List Str} {v u : List Int}, v.length = u.length → toF ns (plusV b q v u) = rowSub q (toF ns v) (toF ns u) (-b)
  | [], v, u, _ => by
    funext x
    show (0 : Int) = (0 - 0 * -b) % q
    simp
  | n :: ns, [], [], _ => by
    funext x
    show (0 : Int) = (0 - 0 * -b) % q
    simp
  | n :: ns, d :: v, e :: u, h => by
    funext x
    have ih := congrFun (toF_plus (b := b) (q := q) (ns := ns) (v := v) (u := u) (by simpa using h)) x
    show (if x = n then (d + b * e) % q else toF ns (plusV b q v u) x) = ((if x = n then d else toF ns v x) - (if x = n then e else toF ns u x) * -b) % q
    by_cases z : x = n
    · rw [if_pos z, if_pos z, if_pos z]
      congr 1
      grind
    · rw [if_neg z, if_neg z, if_neg z, ih]
      rfl
theorem toF_rowV {f : Str → Int} {c : Int} : ∀ {ns : List Str} {x : Str}, x ∈ ns → toF ns (rowV ns f c) x = f x
  | [], _, h => nomatch h
  | n :: ns, x, h => by
    show (if x = n then f n else toF ns (rowV ns f c) x) = f x
    by_cases z : x = n
    · rw [if_pos z, z]
    · rw [if_neg z]
      exact toF_rowV ((List.mem_cons.mp h).resolve_left z)
theorem cst_rowV {ns : List Str} {f : Str → Int} {c : Int} : cst (rowV ns f c) = c := by
  unfold cst rowV
  simp
/-- a vector is its weights and its number -/
theorem rowV_toF : ∀ {ns : List Str} {v : List Int}, ns.Nodup → v.length = ns.length + 1 → rowV ns (toF ns v) (cst v) = v
  | [], v, _, h => by
    obtain ⟨d, rfl⟩ := List.length_eq_one_iff.mp h
    rfl
  | n :: ns, [], _, h => by cases h
  | n :: ns, d :: v, nd, h => by
    obtain ⟨n1, n2⟩ := List.nodup_cons.mp nd
    have hv : v ≠ [] := fun e => by rw [e] at h; simp at h
    have ih := rowV_toF n2 (v := v) (by simpa using h)
    have hc : cst (d :: v) = cst v := by
      rw [cst_last hv, cst_last (List.cons_ne_nil _ _), List.getLast_cons hv]
    rw [hc]
    show (n :: ns).map (toF (n :: ns) (d :: v)) ++ [cst v] = d :: v
    have e1 : toF (n :: ns) (d :: v) n = d := by
      show (if n = n then d else _) = d
      rw [if_pos rfl]
    have e2 : ns.map (toF (n :: ns) (d :: v)) = ns.map (toF ns v) := List.map_congr_left fun x hx => by
      show (if x = n then d else toF ns v x) = _
      rw [if_neg fun e : x = n => n1 (e ▸ hx)]
    rw [List.map_cons, e1, e2, List.cons_append]
    exact congrArg (d :: ·) ih
theorem vec_ext {n : Nat} {q : Int} {ns : List Str} {v u : List Int} (nd : ns.Nodup) (hn : ns.length = n) (hv : Vec n q v) (hu : Vec n q u) (h1 : toF ns v = toF ns u) (h2 : cst v = cst u) : v = u := by
  have a := rowV_toF nd (v := v) (by rw [hv.1, hn])
  have b := rowV_toF nd (v := u) (by rw [hu.1, hn])
  rw [h1, h2] at a
  exact a.symm.trans b
theorem rowV_vec {n : Nat} {q : Int} {ns : List Str} {f : Str → Int} {c : Int} (hn : ns.length = n) (hf : Rg q f) (hc : 0 ≤ c ∧ c < q) : Vec n q (rowV ns f c) := by
  refine ⟨by rw [rowV, List.length_append, List.length_map, hn]; rfl, fun d hd => ?_⟩
  rcases List.mem_append.mp hd with hd | hd
  · obtain ⟨x, _, rfl⟩ := List.mem_map.mp hd
    exact hf x
  · rw [List.mem_singleton.mp hd]
    exact hc
theorem toF_eq {ns : List Str} {f : Str → Int} {c : Int} (hs : ∀ x, f x ≠ 0 → x ∈ ns) : toF ns (rowV ns f c) = f := funext fun x => by
  by_cases h : x ∈ ns
  · exact toF_rowV h
  · rw [toF_out h]
    exact Decidable.byContradiction fun z => h (hs x fun e => z e.symm)
theorem toF_sup {ns : List Str} {v : List Int} {x : Str} (h : toF ns v x ≠ 0) : x ∈ ns := Classical.byContradiction fun z => h (toF_out z)
theorem vec_rg {n : Nat} {q : Int} {ns : List Str} {v : List Int} (hq : 0 < q) (h : Vec n q v) : Rg q (toF ns v) := toF_rg hq h.2
theorem cst_vec {n : Nat} {q : Int} {v : List Int} (h : Vec n q v) : 0 ≤ cst v ∧ cst v < q := by
  have hn : v ≠ [] := fun e => by have := h.1; rw [e] at this; cases this
  rw [cst_last hn]
  exact h.2 _ (List.getLast_mem hn)
/-! ### entries of combinations -/
theorem plus_at {b q : Int} {v u : List Int} {i : Nat} (h : i < (plusV b q v u).length) (h1 : i < v.length) (h2 : i < u.length) : (plusV b q v u)[i] = (v[i] + b * u[i]) % q := List.getElem_zipWith
theorem plus_ext {v u : List Int} (hl : v.length = u.length) (h : ∀ i (h1 : i < v.length) (h2 : i < u.length), v[i] = u[i]) : v = u := List.ext_getElem hl h
/-- v + b (u + d r) ... -/
theorem plus_plus {n : Nat} {q b d e : Int} {v u r : List Int} (hv : v.length = n) (hu : u.length = n) (hr : r.length = n) : plusV b q (plusV d q v r) (plusV e q u r) = plusV (d + b * e) q (plusV b q v u) r := by
  have l1 := plus_len (b := d) (q := q) hv hr
  have l2 := plus_len (b := e) (q := q) hu hr
  have l3 := plus_len (b := b) (q := q) hv hu
  have l4 := plus_len (b := b) (q := q) l1 l2
  have l5 := plus_len (b := d + b * e) (q := q) l3 hr
  refine plus_ext (by rw [l4, l5]) fun i h1 h2 => ?_
  rw [plus_at h1 (by omega) (by omega), plus_at h2 (by omega) (by omega), plus_at (by omega) (by omega) (by omega), plus_at (by omega) (by omega) (by omega), plus_at (by omega) (by omega) (by omega)]
  refine emod_of_dvd ?_
  obtain ⟨k1, e1⟩ := dvd_emod q (v[i] + d * r[i])
  obtain ⟨k2, e2⟩ := dvd_emod q (u[i] + e * r[i])
  obtain ⟨k3, e3⟩ := dvd_emod q (v[i] + b * u[i])
  refine ⟨k1 + b * k2 - k3, ?_⟩
  grind
theorem plus_mod {n : Nat} {q b : Int} {v u : List Int} (hv : v.length = n) (hu : u.length = n) : plusV (b % q) q v u = plusV b q v u := by
  have l1 := plus_len (b := b % q) (q := q) hv hu
  have l2 := plus_len (b := b) (q := q) hv hu
  refine plus_ext (by rw [l1, l2]) fun i h1 h2 => ?_
  rw [plus_at h1 (by omega) (by omega), plus_at h2 (by omega) (by omega)]
  refine emod_of_dvd ?_
  obtain ⟨k, e⟩ := dvd_emod q b
  exact ⟨k * u[i], by grind⟩
theorem emod_id {q a : Int} (h : 0 ≤ a ∧ a < q) : a % q = a := Int.emod_eq_of_lt h.1 h.2
theorem zero_plus {n : Nat} {q : Int} {v : List Int} (hv : Vec n q v) : plusV 1 q (List.replicate (n + 1) 0) v = v := by
  have l1 := plus_len (b := 1) (q := q) (List.length_replicate (n := n + 1) (a := (0 : Int))) hv.1
  refine plus_ext (by rw [l1, hv.1]) fun i h1 h2 => ?_
  rw [plus_at h1 (by rw [List.length_replicate]; omega) h2, List.getElem_replicate, Int.zero_add, Int.one_mul]
  exact emod_id (hv.2 _ (List.getElem_mem _))
theorem plus_zero {n : Nat} {q : Int} {v u : List Int} (hv : Vec n q v) (hu : u.length = n + 1) : plusV 0 q v u = v := by
  have l1 := plus_len (b := 0) (q := q) hv.1 hu
  refine plus_ext (by rw [l1, hv.1]) fun i h1 h2 => ?_
  rw [plus_at h1 h2 (by omega), Int.zero_mul, Int.add_zero]
  exact emod_id (hv.2 _ (List.getElem_mem _))
/-- a list of vectors closed under combinations -/
structure VSub (n : Nat) (q : Int) (L : List (List Int)) : Prop where
  vec : ∀ v ∈ L, Vec n q v
  nd : L.Nodup
  zero : List.replicate (n + 1) 0 ∈ L
  cl : ∀ v ∈ L, ∀ u ∈ L, ∀ b : Int, plusV b q v u ∈ L
theorem inv_mod {q c : Int} (hq : Qok q) (hc : ¬ q ∣ c) : ∃ i, q ∣ c * i - 1 := by
  rcases hq with rfl | rfl | rfl
  · have h : c % 2 = 1 := by omega
    exact ⟨1, by omega⟩
  · have h : c % 3 = 1 ∨ c % 3 = 2 := by omega
    rcases h with h | h
    · exact ⟨1, by omega⟩
    · exact ⟨2, by omega⟩
  · have h : c % 5 = 1 ∨ c % 5 = 2 ∨ c % 5 = 3 ∨ c % 5 = 4 := by omega
    rcases h with h | h | h | h
    · exact ⟨1, by omega⟩
    · exact ⟨3, by omega⟩
    · exact ⟨2, by omega⟩
    · exact ⟨4, by omega⟩
def moreV (q : Int) (L : List (List Int)) (r : List Int) : List (List Int) := L.flatMap fun v => (List.range q.toNat).map fun d : Nat => plusV d q v r
theorem moreV_mem {q : Int} {L : List (List Int)} {r x : List Int} : x ∈ moreV q L r ↔ ∃ v ∈ L, ∃ d : Nat, d < q.toNat ∧ x = plusV d q v r := by
  unfold moreV
  simp only [List.mem_flatMap, List.mem_map, List.mem_range]
  constructor
  · rintro ⟨v, h1, d, h2, rfl⟩
    exact ⟨v, h1, d, h2, rfl⟩
  · rintro ⟨v, h1, d, h2, rfl⟩
    exact ⟨v, h1, d, h2, rfl⟩
theorem moreV_any {n : Nat} {q : Int} (hq : 0 < q) {L : List (List Int)} {r v : List Int} (hv : v ∈ L) (hl : v.length = n + 1) (hr : r.length = n + 1) (b : Int) : plusV b q v r ∈ moreV q L r := by
  rw [← plus_mod hl hr]
  have h1 := Int.emod_nonneg b (show q ≠ 0 by omega)
  have h2 := Int.emod_lt_of_pos b hq
  refine moreV_mem.mpr ⟨v, hv, (b % q).toNat, by omega, ?_⟩
  rw [Int.toNat_of_nonneg h1]
/-- if two of the new ones are one, they came from one -/
theorem plus_inj {n : Nat} {q : Int} (hq : Qok q) {L : List (List Int)} (S : VSub n q L) {r v u : List Int} (hr : Vec n q r) (hn : r ∉ L) (hv : v ∈ L) (hu : u ∈ L) {d e : Nat} (hd : d < q.toNat) (he : e < q.toNat)
    (h : plusV d q v r = plusV e q u r) : v = u ∧ d = e := by
  have q2 := hq.le
  have lv := (S.vec v hv).1
  have lu := (S.vec u hu).1
  have lr := hr.1
  by_cases hde : d = e
  · subst hde
    refine ⟨plus_ext (by rw [lv, lu]) fun i h1 h2 => ?_, rfl⟩
    have h3 : i < r.length := by omega
    have h4 : i < (plusV d q v r).length := by rw [plus_len lv lr]; omega
    have h5 : i < (plusV d q u r).length := by rw [plus_len lu lr]; omega
    have hx : (plusV d q v r)[i] = (plusV d q u r)[i] := by simp only [h]
    rw [plus_at h4 h1 h3, plus_at h5 h2 h3] at hx
    obtain ⟨k, hk⟩ := dvd_of_emod hx
    exact eq_of_dvd ⟨k, by grind⟩ ((S.vec v hv).2 _ (List.getElem_mem _)) ((S.vec u hu).2 _ (List.getElem_mem _))
  · exfalso
    have hnd : ¬ q ∣ ((d : Int) - e) := fun ⟨k, hk⟩ => by
      rcases hq with rfl | rfl | rfl <;> omega
    obtain ⟨i, hi⟩ := inv_mod hq hnd
    refine hn ?_
    have hz := S.zero
    have h1 := S.cl _ hz _ (S.cl u hu v hv (-1)) i
    have e1 : plusV i q (List.replicate (n + 1) 0) (plusV (-1) q u v) = r := by
      have l1 := plus_len (b := -1) (q := q) lu lv
      have l2 := plus_len (b := i) (q := q) (List.length_replicate (n := n + 1) (a := (0 : Int))) l1
      refine plus_ext (by rw [l2, lr]) fun j g1 g2 => ?_
      have h4 : j < (plusV d q v r).length := by rw [plus_len lv lr]; omega
      have h5 : j < (plusV e q u r).length := by rw [plus_len lu lr]; omega
      have hx : (plusV d q v r)[j] = (plusV e q u r)[j] := by simp only [h]
      rw [plus_at h4 (by omega) (by omega), plus_at h5 (by omega) (by omega)] at hx
      rw [plus_at g1 (by rw [List.length_replicate]; omega) (by omega), List.getElem_replicate, plus_at (by omega) (by omega) (by omega)]
      obtain ⟨k1, hk1⟩ := dvd_of_emod hx
      obtain ⟨k2, hk2⟩ := hi
      obtain ⟨k3, hk3⟩ := dvd_emod q (u[j] + -1 * v[j])
      have hr2 := hr.2 _ (List.getElem_mem (l := r) g2)
      rw [← emod_id hr2]
      refine emod_of_dvd ⟨i * k3 - i * k1 + k2 * r[j], ?_⟩
      generalize (u[j] + -1 * v[j]) % q = w at *
      generalize r[j] = a at *
      generalize v[j] = b at *
      generalize u[j] = c at *
      have hw : w = q * k3 + (c + -1 * b) := by omega
      have hbc : c + -1 * b = ((d : Int) - e) * a - q * k1 := by grind
      have hone : ((d : Int) - e) * i = q * k2 + 1 := by omega
      rw [hw, hbc]
      have : i * (((d : Int) - e) * a) = (q * k2 + 1) * a := by rw [← hone]; grind
      grind
    rw [e1] at h1
    exact h1
end K14
/-! M4 -/
set_option Elab.async false
set_option linter.all false
set_option maxRecDepth 100000
set_option maxHeartbeats 4000000
/-! M4: the law's list of sums is the span; its size. -/
namespace K14
open PySem PySem.Spec PyProof.Rows L2
theorem nodup_flatMap {α β : Type} {f : α → List β} : ∀ {l : List α}, l.Nodup → (∀ x ∈ l, (f x).Nodup) → (∀ x ∈ l, ∀ y ∈ l, ∀ z, z ∈ f x → z ∈ f y → x = y) → (l.flatMap f).Nodup
  | [], _, _, _ => List.nodup_nil
  | a :: l, nd, h1, h2 => by
    obtain ⟨n1, n2⟩ := List.nodup_cons.mp nd
    rw [List.flatMap_cons]
    refine List.nodup_append.mpr ⟨h1 a List.mem_cons_self, nodup_flatMap n2 (fun x hx => h1 x (List.mem_cons_of_mem _ hx)) (fun x hx y hy => h2 x (List.mem_cons_of_mem _ hx) y (List.mem_cons_of_mem _ hy)), fun x hx y hy e => ?_⟩
    subst e
    obtain ⟨b, hb, hxb⟩ := List.mem_flatMap.mp hy
    have := h2 a List.mem_cons_self b (List.mem_cons_of_mem _ hb) x hx hxb
    exact n1 (this ▸ hb)
theorem nodup_map {α β : Type} {f : α → β} : ∀ {l : List α}, l.Nodup → (∀ x ∈ l, ∀ y ∈ l, f x = f y → x = y) → (l.map f).Nodup
  | [], _, _ => List.nodup_nil
  | a :: l, nd, h => by
    obtain ⟨n1, n2⟩ := List.nodup_cons.mp nd
    refine List.nodup_cons.mpr ⟨fun hm => ?_, nodup_map n2 fun x hx y hy => h x (List.mem_cons_of_mem _ hx) y (List.mem_cons_of_mem _ hy)⟩
    obtain ⟨b, hb, e⟩ := List.mem_map.mp hm
    exact n1 (h b (List.mem_cons_of_mem _ hb) a List.mem_cons_self e ▸ hb)
theorem VSub.more {n : Nat} {q : Int} (hq : Qok q) {L : List (List Int)} (S : VSub n q L) {r : List Int} (hr : Vec n q r) (hn : r ∉ L) : VSub n q (moreV q L r) := by
  obtain ⟨q2, q5, qn⟩ := hq.le
  refine ⟨fun v hv => ?_, ?_, ?_, ?_⟩
  · obtain ⟨u, hu, d, _, rfl⟩ := moreV_mem.mp hv
    exact plus_vec (by omega) (S.vec u hu).1 hr.1
  · refine nodup_flatMap S.nd (fun v hv => ?_) (fun v hv u hu z h1 h2 => ?_)
    · refine nodup_map List.nodup_range fun d hd e he h => ?_
      exact (plus_inj hq S hr hn hv hv (List.mem_range.mp hd) (List.mem_range.mp he) h).2
    · obtain ⟨d, hd, e1⟩ := List.mem_map.mp h1
      obtain ⟨e, he, e2⟩ := List.mem_map.mp h2
      exact (plus_inj hq S hr hn hv hu (List.mem_range.mp hd) (List.mem_range.mp he) (e1.trans e2.symm)).1
  · refine moreV_mem.mpr ⟨_, S.zero, 0, by omega, ?_⟩
    exact (plus_zero (S.vec _ S.zero) hr.1).symm
  · intro v hv u hu b
    obtain ⟨v', hv', d, _, rfl⟩ := moreV_mem.mp hv
    obtain ⟨u', hu', e, _, rfl⟩ := moreV_mem.mp hu
    rw [plus_plus (S.vec v' hv').1 (S.vec u' hu').1 hr.1]
    exact moreV_any (by omega) (S.cl v' hv' u' hu' b) (plus_len (S.vec v' hv').1 (S.vec u' hu').1) hr.1 _
theorem spanStep_sub {n : Nat} {q : Int} (hq : Qok q) {L : List (List Int)} (S : VSub n q L) {r : List Int} (hr : Vec n q r) : VSub n q (spanStep q L r) ∧ r ∈ spanStep q L r ∧ ∀ v ∈ L, v ∈ spanStep q L r := by
  obtain ⟨q2, q5, qn⟩ := hq.le
  by_cases h : r ∈ L
  · rw [spanStep, if_pos h]
    exact ⟨S, h, fun _ h => h⟩
  · rw [spanStep, if_neg h]
    refine ⟨S.more hq hr h, ?_, fun v hv => ?_⟩
    · exact moreV_mem.mpr ⟨_, S.zero, 1, by omega, (zero_plus hr).symm⟩
    · exact moreV_mem.mpr ⟨v, hv, 0, by omega, (plus_zero (S.vec v hv) hr.1).symm⟩
theorem spanFold_sub {n : Nat} {q : Int} (hq : Qok q) : ∀ {rows : List (List Int)} {L : List (List Int)}, VSub n q L → (∀ r ∈ rows, Vec n q r) → VSub n q (rows.foldl (spanStep q) L) ∧ (∀ r ∈ rows, r ∈ rows.foldl (spanStep q) L) ∧ ∀ v ∈ L, v ∈ rows.foldl (spanStep q) L
  | [], L, S, _ => ⟨S, (fun r h => nomatch h), fun _ h => h⟩
  | r :: rows, L, S, h => by
    obtain ⟨S1, h1, h2⟩ := spanStep_sub hq S (h r List.mem_cons_self)
    obtain ⟨S2, h3, h4⟩ := spanFold_sub hq S1 fun x hx => h x (List.mem_cons_of_mem _ hx)
    refine ⟨S2, fun x hx => ?_, fun v hv => h4 _ (h2 v hv)⟩
    rcases List.mem_cons.mp hx with e | hx
    · rw [e]
      exact h4 _ h1
    · exact h3 x hx
theorem zeroV_vec {n : Nat} {q : Int} (hq : 0 < q) : Vec n q (List.replicate (n + 1) 0) := ⟨List.length_replicate, fun d hd => by
  rw [List.eq_of_mem_replicate hd]
  omega⟩
theorem VSub.nil {n : Nat} {q : Int} (hq : 0 < q) : VSub n q [List.replicate (n + 1) 0] := by
  refine ⟨fun v hv => ?_, List.pairwise_singleton _ _, List.mem_singleton.mpr rfl, fun v hv u hu b => ?_⟩
  · rw [List.mem_singleton.mp hv]
    exact zeroV_vec hq
  · rw [List.mem_singleton.mp hv, List.mem_singleton.mp hu]
    refine List.mem_singleton.mpr (plus_ext ?_ fun i h1 h2 => ?_)
    · exact (plus_len (m := n + 1) List.length_replicate List.length_replicate).trans List.length_replicate.symm
    · rw [plus_at h1 (by rw [List.length_replicate] at *; omega) (by rw [List.length_replicate] at *; omega), List.getElem_replicate]
      simp
/-- whatever holds of 0 and of the rows and goes along with combinations holds of all -/
theorem spanFold_ind {n : Nat} {q : Int} (hq : Qok q) {T : List Int → Prop} (hT : ∀ v u (b : Int), Vec n q v → Vec n q u → T v → T u → T (plusV b q v u)) : ∀ {rows : List (List Int)} {L : List (List Int)}, VSub n q L → (∀ r ∈ rows, Vec n q r) → (∀ v ∈ L, T v) → (∀ r ∈ rows, T r) → ∀ v ∈ rows.foldl (spanStep q) L, T v
  | [], L, S, _, h1, _ => h1
  | r :: rows, L, S, h, h1, h2 => by
    have hr := h r List.mem_cons_self
    refine spanFold_ind (rows := rows) (L := spanStep q L r) hq hT (spanStep_sub hq S hr).1 (fun x hx => h x (List.mem_cons_of_mem _ hx)) (fun v hv => ?_) (fun x hx => h2 x (List.mem_cons_of_mem _ hx))
    by_cases hm : r ∈ L
    · rw [spanStep, if_pos hm] at hv
      exact h1 v hv
    · rw [spanStep, if_neg hm] at hv
      obtain ⟨u, hu, d, _, rfl⟩ := moreV_mem.mp hv
      exact hT u r d (S.vec u hu) hr (h1 u hu) (h2 r List.mem_cons_self)
/-- a list that holds just the vectors whose weights lie in the span of B -/
structure Spn (n : Nat) (q : Int) (ns : List Str) (B : Bs) (F : List (List Int)) : Prop where
  nd : F.Nodup
  mem : ∀ v, v ∈ F ↔ Vec n q v ∧ InS q B (toF ns v)
theorem toF_lastV {ns : List Str} {n : Nat} (hn : ns.length = n) : toF ns (List.replicate n 0 ++ [1]) = zer := by
  have e : List.replicate n 0 ++ [1] = rowV ns zer 1 := by
    rw [rowV, ← hn]
    congr 1
    show _ = ns.map (fun _ => (0 : Int))
    rw [List.map_const']
  rw [e]
  exact toF_eq fun x h => absurd rfl h
theorem toF_zeroV {ns : List Str} {n : Nat} (hn : ns.length = n) : toF ns (List.replicate (n + 1) 0) = zer := by
  have e : List.replicate (n + 1) 0 = rowV ns zer 0 := by
    rw [rowV, ← hn, rep_snoc]
    congr 1
    show _ = ns.map (fun _ => (0 : Int))
    rw [List.map_const']
  rw [e]
  exact toF_eq fun x h => absurd rfl h
theorem cst_lastV {n : Nat} : cst (List.replicate n 0 ++ [1]) = 1 := by
  unfold cst
  simp
theorem cst_plus {n : Nat} {q b : Int} {v u : List Int} (hv : v.length = n + 1) (hu : u.length = n + 1) : cst (plusV b q v u) = (cst v + b * cst u) % q := by
  have l1 := plus_len (b := b) (q := q) hv hu
  have g : ∀ {w : List Int} (h : w.length = n + 1), cst w = w[n]'(by omega) := fun {w} h => by
    have hw : w ≠ [] := fun e => by rw [e] at h; cases h
    rw [cst_last hw, List.getLast_eq_getElem]
    simp [h]
  rw [g l1, g hv, g hu, plus_at (by omega) (by omega) (by omega)]
theorem span_spn {n : Nat} {q : Int} (hq : Qok q) {ns U : List Str} (nd : ns.Nodup) (hn : ns.length = n) {rows : List (List Int)} (hr : ∀ r ∈ rows, Vec n q r) {B : Bs} (S : Spans q U (rows.map (toF ns)) B) : Spn n q ns B (spanV q n rows) := by
  obtain ⟨q2, q5, qn⟩ := hq.le
  have hq0 : 0 < q := by omega
  have hall : ∀ r ∈ rows ++ [List.replicate n 0 ++ [1]], Vec n q r := fun r h => by
    rcases List.mem_append.mp h with h | h
    · exact hr r h
    · rw [List.mem_singleton.mp h]
      exact lastV_vec q2
  obtain ⟨S1, h1, h2⟩ := spanFold_sub hq (VSub.nil (n := n) hq0) hall
  have hlast := h1 _ (List.mem_append_right _ (List.mem_singleton.mpr rfl))
  refine ⟨S1.nd, fun v => ⟨fun hv => ⟨S1.vec v hv, ?_⟩, fun ⟨hv, hI⟩ => ?_⟩⟩
  · refine spanFold_ind hq (T := fun v => InS q B (toF ns v)) (fun v u b hv hu h1 h2 => ?_) (VSub.nil (n := n) hq0) hall (fun v hv => ?_) (fun r h => ?_) v hv
    · rw [toF_plus (by rw [hv.1, hu.1])]
      exact inS_sub hq0 B _ _ _ h1 h2
    · rw [List.mem_singleton.mp hv, toF_zeroV hn]
      exact inS_zer hq0 B
    · rcases List.mem_append.mp h with h | h
      · exact S.all _ (List.mem_map_of_mem h)
      · rw [List.mem_singleton.mp h, toF_lastV hn]
        exact inS_zer hq0 B
  · have hT : K14.Sub q (fun f => ∃ u ∈ spanV q n rows, toF ns u = f) := by
      rintro f g c ⟨u1, hu1, rfl⟩ ⟨u2, hu2, rfl⟩
      refine ⟨plusV (-c) q u1 u2, S1.cl u1 hu1 u2 hu2 _, ?_⟩
      rw [toF_plus (by rw [(S1.vec u1 hu1).1, (S1.vec u2 hu2).1]), Int.neg_neg]
    have hz : ∃ u ∈ spanV q n rows, toF ns u = zer := ⟨_, S1.zero, toF_zeroV hn⟩
    obtain ⟨u, hu, e⟩ := InS.gen hq0 hI hT hz (S.into _ hT hz fun f hf => by
      obtain ⟨r, hr1, rfl⟩ := List.mem_map.mp hf
      exact ⟨r, h1 r (List.mem_append_left _ hr1), rfl⟩)
    have huv := S1.vec u hu
    have hw := S1.cl u hu _ hlast (cst v - cst u)
    have hl := (lastV_vec (n := n) q2).1
    have e1 : plusV (cst v - cst u) q u (List.replicate n 0 ++ [1]) = v := by
      refine vec_ext nd hn (plus_vec hq0 huv.1 hl) hv ?_ ?_
      · rw [toF_plus (by rw [huv.1, hl]), toF_lastV hn, e]
        funext x
        show (toF ns v x - 0 * _) % q = toF ns v x
        rw [Int.zero_mul, Int.sub_zero]
        exact emod_id (vec_rg hq0 hv x)
      · rw [cst_plus huv.1 hl, cst_lastV]
        have := cst_vec hv
        rw [show cst u + (cst v - cst u) * 1 = cst v by omega]
        exact emod_id this
    rw [e1] at hw
    exact hw
/-! ### all vectors -/
theorem allV_mem {q : Int} (hq : 0 < q) : ∀ {n : Nat} {v : List Int}, v ∈ allV q n ↔ v.length = n ∧ ∀ d ∈ v, 0 ≤ d ∧ d < q
  | 0, v => by
    constructor
    · intro h
      rw [List.mem_singleton.mp h]
      exact ⟨rfl, fun d h => nomatch h⟩
    · rintro ⟨h, _⟩
      rw [List.length_eq_zero_iff.mp h]
      exact List.mem_singleton.mpr rfl
  | n + 1, v => by
    rw [show allV q (n + 1) = longerV q (allV q n) from rfl, longerV_mem]
    constructor
    · rintro ⟨u, hu, d, hd, rfl⟩
      obtain ⟨h1, h2⟩ := (allV_mem hq).mp hu
      refine ⟨by rw [List.length_append, h1]; rfl, fun x hx => ?_⟩
      rcases List.mem_append.mp hx with hx | hx
      · exact h2 x hx
      · rw [List.mem_singleton.mp hx]
        omega
    · rintro ⟨h1, h2⟩
      have hv : v ≠ [] := fun e => by rw [e] at h1; cases h1
      have hl := h2 _ (List.getLast_mem hv)
      refine ⟨v.dropLast, (allV_mem hq).mpr ⟨by rw [List.length_dropLast]; omega, fun d hd => h2 d (List.dropLast_subset v hd)⟩, (v.getLast hv).toNat, by omega, ?_⟩
      rw [Int.toNat_of_nonneg hl.1]
      exact (List.dropLast_concat_getLast hv).symm
theorem allV_nd {q : Int} : ∀ {n : Nat}, (allV q n).Nodup
  | 0 => List.pairwise_singleton _ _
  | n + 1 => by
    refine nodup_flatMap (allV_nd (n := n)) (fun v hv => ?_) (fun v hv u hu z h1 h2 => ?_)
    · refine nodup_map List.nodup_range fun d hd e he h => ?_
      have := List.append_cancel_left h
      have : (d : Int) = e := by simpa using this
      omega
    · obtain ⟨d, hd, e1⟩ := List.mem_map.mp h1
      obtain ⟨e, he, e2⟩ := List.mem_map.mp h2
      have h3 := e1.trans e2.symm
      exact (List.append_inj h3 (by rw [allV_vlen hv, allV_vlen hu])).1
theorem comb_congr {c d : Str → Int} : ∀ {B : Bs} {x : Str}, (∀ p ∈ B, c p.1 = d p.1) → comb c B x = comb d B x
  | [], _, _ => rfl
  | p :: B, x, h => by
    rw [comb_cons, comb_cons, comb_congr fun r hr => h r (List.mem_cons_of_mem _ hr), h p List.mem_cons_self]
theorem mem_allV {n : Nat} {q : Int} (hq : 0 < q) {v : List Int} : v ∈ allV q (n + 1) ↔ Vec n q v := allV_mem hq
/-- how many they are -/
theorem Spn.count {n : Nat} {q : Int} (hq : Qok q) {ns : List Str} (nd : ns.Nodup) (hn : ns.length = n) {B : Bs} (R : Rref q ns B) {F : List (List Int)} (S : Spn n q ns B F) : F.length = q.toNat ^ (B.length + 1) := by
  obtain ⟨q2, q5, qn⟩ := hq.le
  have hq0 : 0 < q := by omega
  have hnd := R.nd
  rw [← allV_len]
  have hF : ∀ v ∈ F, rowV (B.map (·.1)) (toF ns v) (cst v) ∈ allV q (B.length + 1) := fun v hv => by
    obtain ⟨h1, h2⟩ := (S.mem v).mp hv
    exact (mem_allV hq0).mpr (rowV_vec (List.length_map _) (vec_rg hq0 h1) (cst_vec h1))
  have hinj : (F.map fun v => rowV (B.map (·.1)) (toF ns v) (cst v)).Nodup := nodup_map S.nd fun v hv u hu h => by
    obtain ⟨v1, v2⟩ := (S.mem v).mp hv
    obtain ⟨u1, u2⟩ := (S.mem u).mp hu
    have hc : cst v = cst u := by
      have := congrArg cst h
      rwa [cst_rowV, cst_rowV] at this
    have hl : ∀ p ∈ B, toF ns v p.1 = toF ns u p.1 := fun p hp => by
      have := congrFun (congrArg (toF (B.map (·.1))) h) p.1
      rwa [toF_rowV (List.mem_map_of_mem hp), toF_rowV (List.mem_map_of_mem hp)] at this
    refine vec_ext nd hn v1 u1 ?_ hc
    refine rg_ext v2.1 u2.1 fun x => ?_
    have e := comb_congr (x := x) hl
    obtain ⟨k1, h1⟩ := v2.2 x
    obtain ⟨k2, h2⟩ := u2.2 x
    exact ⟨k1 - k2, by rw [Int.mul_sub]; omega⟩
  have hsur : ∀ t ∈ allV q (B.length + 1), t ∈ F.map fun v => rowV (B.map (·.1)) (toF ns v) (cst v) := fun t ht => by
    have tv : Vec B.length q t := (mem_allV hq0).mp ht
    have hBl : (B.map (·.1)).length = B.length := List.length_map _
    let c := toF (B.map (·.1)) t
    have hc : Rg q c := vec_rg hq0 tv
    let f : Str → Int := fun x => comb c B x % q
    have hf : Rg q f := fun x => ⟨Int.emod_nonneg _ (by omega), Int.emod_lt_of_pos _ hq0⟩
    have hfl : ∀ p ∈ B, f p.1 = c p.1 := fun p hp => by
      show comb c B p.1 % q = c p.1
      rw [R.comb_at c hp]
      exact emod_id (hc p.1)
    have hfs : ∀ x, f x ≠ 0 → x ∈ ns := fun x hx => Classical.byContradiction fun z => hx (by
      show comb c B x % q = 0
      rw [comb_off R c z]
      rfl)
    have hfI : InS q B f := ⟨hf, fun x => by
      rw [comb_congr hfl]
      exact dvd_emod q _⟩
    have hv := rowV_vec hn hf (cst_vec tv)
    have hF2 : rowV ns f (cst t) ∈ F := (S.mem _).mpr ⟨hv, by rw [toF_eq hfs]; exact hfI⟩
    refine List.mem_map.mpr ⟨_, hF2, ?_⟩
    have hnd2 : (B.map (·.1)).Nodup := hnd
    rw [toF_eq hfs, cst_rowV]
    refine Eq.trans ?_ (rowV_toF hnd2 (by rw [tv.1, hBl]))
    unfold rowV
    congr 1
    refine List.map_congr_left fun x hx => ?_
    obtain ⟨p, hp, rfl⟩ := List.mem_map.mp hx
    exact hfl p hp
  have h1 := len_sub hinj fun t ht => by
    obtain ⟨v, hv, rfl⟩ := List.mem_map.mp ht
    exact hF v hv
  have h2 := len_sub allV_nd hsur
  rw [List.length_map] at h1 h2
  omega
end K14
/-! M5 -/
set_option Elab.async false
set_option linter.all false
set_option maxRecDepth 100000
set_option maxHeartbeats 4000000
/-! M5: what a basis in echelon form answers to the law's tests. -/
namespace K14
open PySem PySem.Spec PyProof.Rows L2
theorem sub_supp {q : Int} {ns : List Str} : K14.Sub q (fun f => ∀ x, f x ≠ 0 → x ∈ ns) := fun f g c hf hg x h => by
  refine Classical.byContradiction fun z => h ?_
  have h1 : f x = 0 := Decidable.byContradiction fun e => z (hf x e)
  have h2 : g x = 0 := Decidable.byContradiction fun e => z (hg x e)
  show (f x - g x * c) % q = 0
  rw [h1, h2]
  simp
theorem Spans.supp {q : Int} {U ns : List Str} {rows : List (List Int)} {B : Bs} (S : Spans q U (rows.map (toF ns)) B) : ∀ p ∈ B, ∀ x, p.2 x ≠ 0 → x ∈ ns :=
  S.into _ sub_supp (fun x h => absurd rfl h) fun f hf x hx => by
    obtain ⟨r, _, rfl⟩ := List.mem_map.mp hf
    exact toF_sup hx
theorem Rref.onNs {q : Int} {U ns : List Str} {B : Bs} (R : Rref q U B) (h : ∀ p ∈ B, ∀ x, p.2 x ≠ 0 → x ∈ ns) : Rref q ns B := ⟨R.nd, R.rg, h, R.one, R.zer, R.low⟩
theorem idx_at {ns : List Str} {x : Str} (h : x ∈ ns) : ns[ns.idxOf x]? = some x := by
  have hl := List.idxOf_lt_length_of_mem h
  rw [List.getElem?_eq_getElem hl, List.getElem_idxOf hl]
theorem rowV_getD {ns : List Str} {f : Str → Int} {c : Int} {i : Nat} {x : Str} (h : ns[i]? = some x) : (rowV ns f c).getD i 0 = f x := by
  have hl : i < ns.length := (List.getElem?_eq_some_iff.mp h).1
  rw [List.getD_eq_getElem?_getD, rowV, List.getElem?_append_left (by rw [List.length_map]; exact hl), List.getElem?_map, h]
  rfl
/-- places of sorted names go as the names go -/
theorem slt_idx {ns : List Str} (so : ns.Pairwise slt) {i j : Nat} {x y : Str} (hi : ns[i]? = some x) (hj : ns[j]? = some y) (h : slt x y) : i < j := by
  obtain ⟨li, rfl⟩ := List.getElem?_eq_some_iff.mp hi
  obtain ⟨lj, rfl⟩ := List.getElem?_eq_some_iff.mp hj
  rcases Nat.lt_trichotomy i j with g | g | g
  · exact g
  · subst g
    exact absurd h (slt_irrefl _)
  · exact absurd (List.pairwise_iff_getElem.mp so j i lj li g) (slt_asymm h)
theorem idx_slt {ns : List Str} (so : ns.Pairwise slt) {i j : Nat} {x y : Str} (hi : ns[i]? = some x) (hj : ns[j]? = some y) (h : i < j) : slt x y := by
  obtain ⟨li, rfl⟩ := List.getElem?_eq_some_iff.mp hi
  obtain ⟨lj, rfl⟩ := List.getElem?_eq_some_iff.mp hj
  exact List.pairwise_iff_getElem.mp so i j li lj h
section
variable {n : Nat} {q : Int} {ns : List Str} {B : Bs} {rs : Tl}
theorem vals_get {rs : Tl} {f : Str × (Str → Int) → List Int} {B : Bs} (h : vals rs = B.map f) {i : Nat} {t : Addr × List Int} (ht : rs[i]? = some t) : ∃ p, B[i]? = some p ∧ t.2 = f p := by
  have := vl_at ht
  rw [h, List.getElem?_map] at this
  cases e : B[i]? with
  | none => rw [e] at this; cases this
  | some p =>
    rw [e] at this
    exact ⟨p, rfl, (Option.some.inj this).symm⟩
theorem ech_of (hn : ns.length = n) (so : ns.Pairwise slt) (R : Rref q ns B) (sb : (B.map (·.1)).Pairwise slt) (h : vals rs = B.map fun p => rowV ns p.2 0) : Ech n rs (B.map fun p => ns.idxOf p.1) := by
  have hB : B.length = rs.length := by
    have := congrArg List.length h
    rw [vals_len, List.length_map] at this
    exact this.symm
  have key : ∀ {j : Nat} {a : Nat}, (B.map fun p => ns.idxOf p.1)[j]? = some a → ∃ p, B[j]? = some p ∧ a = ns.idxOf p.1 ∧ ns[a]? = some p.1 := fun {j a} ha => by
    rw [List.getElem?_map] at ha
    cases e : B[j]? with
    | none => rw [e] at ha; cases ha
    | some p =>
      rw [e] at ha
      have ha := Option.some.inj ha
      exact ⟨p, rfl, ha.symm, by rw [← ha]; exact idx_at (R.lead_in (List.mem_of_getElem? e))⟩
  refine ⟨by rw [List.length_map, hB], fun t ht => ?_, fun i t a ht ha => ?_, fun i t a ht ha => ?_, fun i j t a ht ha hne => ?_, ?_⟩
  · obtain ⟨i, hi⟩ := List.getElem?_of_mem ht
    obtain ⟨p, hp, e⟩ := vals_get h hi
    rw [e, rowV, List.length_append, List.length_map, hn]
    rfl
  · obtain ⟨p, hp, e⟩ := vals_get h ht
    obtain ⟨p', hp', _, hx⟩ := key ha
    rw [hp] at hp'
    obtain rfl := Option.some.inj hp'
    have hpm := List.mem_of_getElem? hp
    have hal : a < ns.length := (List.getElem?_eq_some_iff.mp hx).1
    refine ⟨?_, ?_, fun j hj => ?_⟩
    · rw [e, rowV, List.length_append, List.length_map]
      show a + 1 < ns.length + 1
      omega
    · rw [e, rowV_getD hx, R.one p hpm]
      decide
    · have hj2 : ns[j]? = some (ns[j]'(by omega)) := List.getElem?_eq_getElem _
      rw [e, rowV_getD hj2]
      exact R.low p hpm _ (idx_slt so hj2 hx hj)
  · obtain ⟨p, hp, e⟩ := vals_get h ht
    obtain ⟨p', hp', _, hx⟩ := key ha
    rw [hp] at hp'
    obtain rfl := Option.some.inj hp'
    rw [e, rowV_getD hx]
    exact R.one p (List.mem_of_getElem? hp)
  · obtain ⟨p, hp, e⟩ := vals_get h ht
    obtain ⟨r, hr, _, hx⟩ := key ha
    rw [e, rowV_getD hx]
    refine R.zer r (List.mem_of_getElem? hr) p (List.mem_of_getElem? hp) fun z => hne ?_
    obtain ⟨l1, e1⟩ := List.getElem?_eq_some_iff.mp hp
    obtain ⟨l2, e2⟩ := List.getElem?_eq_some_iff.mp hr
    have nd := R.nd
    have h1 : i < (B.map (·.1)).length := by rw [List.length_map]; exact l1
    have h2 : j < (B.map (·.1)).length := by rw [List.length_map]; exact l2
    refine (List.getElem_inj (h₀ := h1) (h₁ := h2) nd).mp ?_
    rw [List.getElem_map, List.getElem_map, e1, e2, z]
  · refine List.pairwise_iff_getElem.mpr fun i j hi hj hij => ?_
    have hi' : i < B.length := by rw [List.length_map] at hi; exact hi
    have hj' : j < B.length := by rw [List.length_map] at hj; exact hj
    rw [List.getElem_map, List.getElem_map]
    have h1 := List.pairwise_iff_getElem.mp sb i j (by rw [List.length_map]; exact hi') (by rw [List.length_map]; exact hj') hij
    rw [List.getElem_map, List.getElem_map] at h1
    exact slt_idx so (idx_at (R.lead_in (List.getElem_mem hi'))) (idx_at (R.lead_in (List.getElem_mem hj'))) h1
theorem row_in (hq : 0 < q) (hn : ns.length = n) (R : Rref q ns B) {F : List (List Int)} (S : Spn n q ns B F) {p : Str × (Str → Int)} (hp : p ∈ B) : rowV ns p.2 0 ∈ F :=
  (S.mem _).mpr ⟨rowV_vec hn (R.rg p hp) ⟨Int.le_refl _, hq⟩, by rw [toF_eq (R.sup p hp)]; exact R.inS_row hp⟩
theorem filter_ns {U : List Str} (so : ns.Pairwise slt) (sU : U.Pairwise slt) (sub : ∀ x ∈ ns, x ∈ U) {b : Str → Bool} (h : ∀ x, b x = true → x ∈ ns) : U.filter b = ns.filter b :=
  slt_unique (List.Pairwise.filter _ sU) (List.Pairwise.filter _ so) fun x => by
    rw [List.mem_filter, List.mem_filter]
    exact ⟨fun z => ⟨h x z.2, z.2⟩, fun z => ⟨sub x z.1, z.2⟩⟩
theorem zip_rowV {f : Str → Int} {c : Int} : ∀ {ns : List Str}, ns.zip (rowV ns f c) = ns.map fun x => (x, f x)
  | [] => rfl
  | x :: ns => by
    show (x, f x) :: ns.zip (rowV ns f c) = (x, f x) :: ns.map fun x => (x, f x)
    rw [zip_rowV]
theorem named_row {f : Str → Int} {c : Int} : namedV ns (rowV ns f c) = ns.filter fun x => decide (f x ≠ 0) := by
  unfold namedV
  rw [zip_rowV, List.filter_map, List.map_map]
  exact List.map_id _
/-- what reducing leaves, less the row, lies in the span -/
theorem red_less (hq : 0 < q) (R : Rref q ns B) {f : Str → Int} (hf : Rg q f) : InS q B (rowSub q (red q f B) f 1) := by
  refine ⟨rowSub_rg hq _ _ _, fun x => ?_⟩
  have h1 := comb_lin (fun x => rowSub_dvd q (red q f B) f 1 x) B x
  rw [comb_zero B (red q f B) (fun p hp => R.red_lead hq hf hp)] at h1
  have h2 := rowSub_dvd q (red q f B) f 1 x
  have h3 := red_dvd hq hf B x
  obtain ⟨k1, e1⟩ := h1
  obtain ⟨k2, e2⟩ := h2
  obtain ⟨k3, e3⟩ := h3
  refine ⟨k2 + k3 - k1, ?_⟩
  grind
theorem left_in (hq : Qok q) (hn : ns.length = n) (R : Rref q ns B) {F : List (List Int)} (S : Spn n q ns B F) {v : List Int} (hv : Vec n q v) : plusV (-1) q (rowV ns (red q (toF ns v) B) 0) v ∈ F := by
  have hq0 : 0 < q := by have := hq.le; omega
  have hf := vec_rg (ns := ns) hq0 hv
  have hr := red_rg hq0 hf B
  have hrv := rowV_vec (c := 0) hn hr ⟨Int.le_refl _, hq0⟩
  refine (S.mem _).mpr ⟨plus_vec hq0 hrv.1 hv.1, ?_⟩
  rw [toF_plus (by rw [hrv.1, hv.1]), toF_eq fun x hx => R.red_sup hq0 hf (fun x h => toF_sup h) hx]
  exact red_less hq0 R hf
theorem noC_in (hq : Qok q) {U : List Str} (hU : Uok U) (sub : ∀ x ∈ ns, x ∈ U) (R : Rref q ns B) {F : List (List Int)} (S : Spn n q ns B F) {v : List Int} (hv : Vec n q v) : (∀ x, noC (red q (withC (toF ns v) (cst v)) B) x = 0) ↔ v ∈ F := by
  have hq0 : 0 < q := by have := hq.le; omega
  have hf := vec_rg (ns := ns) hq0 hv
  have h0 : ("" : Str) ∉ ns := fun h => hU.nm0 (sub _ h)
  rw [noC_red hq0 R h0 hf (toF_out h0) (cst_vec hv), ← inS_red hq0 hf, S.mem]
  exact ⟨fun h => ⟨hv, h⟩, fun h => h.2⟩
end
end K14
/-! D23 -/
set_option Elab.async false
set_option linter.all false
set_option maxRecDepth 100000
set_option maxHeartbeats 4000000
/-! D23: the law's test of a space. -/
namespace K14
open PySem PySem.Spec PyProof.Rows L2
/-- the scope of the comprehension of names -/
def scp_names : Scope := { kind := .function, names := [((".0" : Str), .local), (("_law_at" : Str), .cell), (("any" : Str), .globalImplicit), (("_law_names_here" : Str), .cell), (("_law_rows" : Str), .cell)], isGenerator := false, isCoroutine := false }
section
variable {P : Program} {w : World} {K : PySem.W.Frag} {mg : Str → Option Value} {base : Heap} {CS CP AM : Addr}
theorem paired_get {α β : Type} {F : α → β → Prop} {l : List α} {m : List β} (h : Paired F l m) : ∀ {i : Nat} {a : α}, l[i]? = some a → ∃ b, m[i]? = some b ∧ F a b := by
  induction h with
  | nil => intro i a h; cases h
  | cons x _ ih =>
    intro i a h
    cases i with
    | zero =>
      obtain rfl := Option.some.inj h
      exact ⟨_, rfl, x⟩
    | succ i => exact ih h
theorem SumAt.updL {CS : Addr} {H : Hp} {a E : Addr} {U : List Str} {q : Int} {f : Str → Int} {c : Int} {xs : List V} {o : HO} (S : SumAt CS H a U q f c) (h : H E = some (.lst xs)) : SumAt CS (upd H E o) a U q f c := by
  obtain ⟨dx, d, g1, g2⟩ := S.ex
  refine ⟨⟨dx, d, ?_, ?_⟩, S.rg, S.sup, S.cr⟩
  · rw [upd_ne fun z => by rw [z, h] at g1; cases g1]
    exact g1
  · rw [upd_ne fun z => by rw [z, h] at g2; cases g2]
    exact g2
/-- the places that some row uses, by name -/
theorem names_eq {n : Nat} {U ns : List Str} {L : Ld} {rs : Tl} (hn : ns.length = n) (so : ns.Pairwise slt) (sU : U.Pairwise slt) (sub : ∀ x ∈ ns, x ∈ U) (sup : ∀ r ∈ bs L, ∀ x, r.2 x ≠ 0 → x ∈ ns) (er : vals rs = (bs L).map fun r => rowV ns r.2 0) :
    usedN U L = ((List.range n).filter fun a => rs.any fun t => decide (t.2.getD a 0 ≠ 0)).map fun a => ns.getD a "" := by
  have hat : ∀ {i : Nat}, i < n → ns[i]? = some (ns.getD i "") := fun {i} hi => by
    rw [List.getD_eq_getElem?_getD, List.getElem?_eq_getElem (by omega)]
    rfl
  refine slt_unique (List.Pairwise.filter _ sU) ?_ fun x => ?_
  · refine List.pairwise_map.mpr (List.Pairwise.filter _ ?_)
    refine List.pairwise_iff_getElem.mpr fun i j hi hj hij => ?_
    rw [List.getElem_range, List.getElem_range]
    rw [List.length_range] at hi hj
    exact idx_slt so (hat hi) (hat hj) hij
  · unfold usedN
    rw [List.mem_filter, List.mem_map]
    constructor
    · rintro ⟨_, h⟩
      obtain ⟨u, hu, hx⟩ := List.any_eq_true.mp h
      have hx := of_decide_eq_true hx
      have hb : (u.1, u.2.2) ∈ bs L := List.mem_map.mpr ⟨u, hu, rfl⟩
      have hxn := sup _ hb x hx
      have hid := idx_at hxn
      have hil : ns.idxOf x < n := by rw [← hn]; exact List.idxOf_lt_length_of_mem hxn
      refine ⟨ns.idxOf x, List.mem_filter.mpr ⟨List.mem_range.mpr hil, ?_⟩, ?_⟩
      · have hv : rowV ns u.2.2 0 ∈ vals rs := by
          rw [er]
          exact List.mem_map.mpr ⟨_, hb, rfl⟩
        obtain ⟨t, ht, e⟩ := List.mem_map.mp hv
        refine List.any_eq_true.mpr ⟨t, ht, decide_eq_true ?_⟩
        rw [e, rowV_getD hid]
        exact hx
      · have := hat hil
        rw [hid] at this
        exact (Option.some.inj this).symm
    · rintro ⟨a, ha, rfl⟩
      obtain ⟨h1, h2⟩ := List.mem_filter.mp ha
      have h1 := List.mem_range.mp h1
      obtain ⟨t, ht, hx⟩ := List.any_eq_true.mp h2
      have hx := of_decide_eq_true hx
      obtain ⟨i, hi⟩ := List.getElem?_of_mem ht
      obtain ⟨r, hr, e⟩ := vals_get er hi
      rw [e, rowV_getD (hat h1)] at hx
      have hrm := List.mem_of_getElem? hr
      obtain ⟨u, hu, e2⟩ := List.mem_map.mp hrm
      refine ⟨sub _ (sup r hrm _ hx), List.any_eq_true.mpr ⟨u, hu, decide_eq_true ?_⟩⟩
      rw [← e2] at hx
      exact hx
theorem ne_bl {i j : Int} : (!decide (V.int i = V.int j)) = decide (i ≠ j) := by
  by_cases z : i = j
  · subst z
    simp
  · rw [decide_eq_true z, decide_eq_false fun y => z (V.int.inj y)]
    rfl
/-- what the test asks: the space at p, the list ss of its vectors, the list es of all -/
structure SpR (K : PySem.W.Frag) (CP : Addr) (H : Hp) (p : Addr) (l2 l3 lN : Addr) (U ns : List Str) (n : Nat) (q : Int) (L : Ld) (ss es : Tl) : Prop where
  sp : Sp1 CP H p U q L
  sup : ∀ r ∈ bs L, ∀ x, r.2 x ≠ 0 → x ∈ ns
  qn : Qn q n
  len : ns.length = n
  so : ns.Pairwise slt
  sub : ∀ x ∈ ns, x ∈ U
  zz : ("zzzz" : Str) ∈ U ∧ ("zzzz" : Str) ∉ ns
  v2 : VL K H l2 ss
  v3 : VL K H l3 es
  nm : H lN = some (.lst (ns.map V.str))
  spn : Spn n q ns (bs L) (vals ss)
  all : ∀ v, v ∈ vals es ↔ Vec n q v
def spRight (K : PySem.W.Frag) (CP : Addr) : Sp := fun vs H Q _ => ∃ (p l2 l3 lN : Addr) (U ns : List Str) (n : Nat) (q : Int) (L : Ld) (ss es : Tl), vs = [.ref p, .ref l2, .ref l3, .ref lN, .int q] ∧ SpR K CP H p l2 l3 lN U ns n q L ss es ∧ ∀ H', Same H H' → Q (.bl true) H'
theorem ok_law_space_right (T : Tx K mg CS CP AM) : GN P w K mg base 10 "_law_space_right" (spRight K CP) := by
  refine Fd.gn T.f_law_space_right sc_law_space_right (fun vs H Q E h => ?_) (fun _ _ _ _ _ _ us hl => match us, hl with | [_, _, _, _, _], _ => rfl) (fun f cdv A outer s H vs Q E hr h => ?_)
  · obtain ⟨p, l2, l3, lN, U, ns, n, q, L, ss, es, rfl, _⟩ := h
    rfl
  · obtain ⟨p, l2, l3, lN, U, ns, n, q, L, ss, es, rfl, SR, k⟩ := h
    have hu := hu_of hr
    have hu1 := hr.units
    have hmon : Mon (DIns CS (SumEq CS)) := mon_ins fun a b H H' e h => by
      obtain ⟨U, q, g, c, h1, h2, h3⟩ := h
      exact ⟨U, q, g, c, h1, h2.same e, h3.same e⟩
    obtain ⟨fq, hFq⟩ := T.m_Sum_eq
    obtain ⟨fdq, FOq, Bq⟩ := ok_Sum_eq (P := P) (w := w) (base := base) T hFq
    refine ⟨_, (pss_cons (ps_set (i := 5) sc_law_space_right.nd rfl (Or.inl rfl) (pe_gm0 (pv 0) T.c_Space.cl (ok_Space_basis T) hr))
      (pss_cons (ps_set (i := 6) sc_law_space_right.nd rfl (Or.inr rfl) (pe_lc (own := [("_law_one", 13)]) rfl sc_law_space_right.nd (pi_list (pv 5)) (blkOk_by (N := N_law_space_right) (sc := defScope st_law_space_right) (by decide +kernel)) (fun _ _ _ _ _ => (pg_name (i := 13) sc_law_space_right.nd rfl (Or.inl rfl) (Or.inr rfl))) (fun _ _ _ _ _ => pts_nil) (fun _ _ _ _ _ => (pe_g (ok_law_row T) hr (by rfl) (pa_cons (pv 13) (pa_cons (pv 3) pa_nil))))))
      (pss_cons (ps_setLc (i := 7) (own := [("_law_row_here", 9)]) rfl sc_law_space_right.nd rfl rfl (sw_true rfl rfl rfl (by decide +kernel)) (pi_list (pv 6)) (blkOk_by (N := N_law_space_right) (sc := defScope st_law_space_right) (by decide +kernel)) (fun _ _ _ _ _ => (pg_name (i := 9) sc_law_space_right.nd rfl (Or.inl rfl) (Or.inr rfl))) (fun _ _ _ _ _ => pts_nil) (fun _ _ _ _ _ => (pe_g (ok_law_sum T) hr (by rfl) (pa_cons (pv 9) (pa_cons (pv 3) (pa_cons (pv 4) pa_nil))))))
      (pss_cons (ps_if (PW.pt (pw_or (pt_not (pt_val (pe_callB call_isi (by rfl) T.n_isinstance bo_isinstance (pa_cons (pv 5) (pa_cons (pe_ty bo_list (by rfl) T.n_list) pa_nil))))) (pw_or (pt_cmpR (op_neL hmon (eqG_ins FOq hFq.me.at_ hFq.me.fn Bq pass0) (hr.mono (by decide))) (pv 7) (pv 5) (nomark _)) (pw_or (pt_cmpR op_ne (pe_gp (pv 0) T.c_Space.cl (ok_Space_modulus T) hr) (pv 4) (nomark _)) (pw_or1 (pt_cmpR op_ne (pe_gp (pv 0) T.c_Space.cl (ok_Space_dimension T) hr) (pe_callB call_len_seq (by rfl) T.n_len bo_len (pa_cons (pv 6) pa_nil)) (nomark _))))))) (pss_one (ps_ret pe_bl)) pss_nil)
      (pss_cons (ps_if (pt_not (pt_val (pe_g (ok_law_is_basis T) hr (by rfl) (pa_cons (pv 6) (pa_cons (pv 1) (pa_cons (pv 4) pa_nil)))))) (pss_one (ps_ret pe_bl)) pss_nil)
      (pss_cons (ps_expr (pe_bm PySem.F.plainAttrs_list PySem.F.slot_list_append PySem.F.type_list_append mt_append (pv 5) (pa_cons pe_non pa_nil)))
      (pss_cons (ps_if (pt_cmpR (op_neT (List Str) hu1) (pe_gm0 (pv 0) T.c_Space.cl (ok_Space_names T) hr) (pe_lc (own := [("_law_at", 14)]) rfl sc_law_space_right.nd (pi_range1 (by rfl) T.n_range (pa_cons (pe_callB call_len_seq (by rfl) T.n_len bo_len (pa_cons (pv 3) pa_nil)) pa_nil)) (blkOk_by (N := N_law_space_right) (sc := defScope st_law_space_right) (by decide +kernel)) (fun _ _ _ _ _ => (pg_name (i := 14) sc_law_space_right.nd rfl (Or.inr rfl) (Or.inl rfl))) (fun _ _ _ _ _ => (pts_one (pt_val (pe_callB (cr_any' (K := K)) (by rfl) T.n_any bo_any (pa_cons (pe_lc (own := [("_law_row_here", 9)]) rfl sc_law_space_right.nd (pi_list' (K := K) (pv 6)) (blkOk_by (N := N_law_space_right) (sc := scp_names) (by decide +kernel)) (fun _ _ _ _ _ => (pg_name (i := 9) sc_law_space_right.nd rfl (Or.inl rfl) (Or.inr rfl))) (fun _ _ _ _ _ => pts_nil) (fun _ _ _ _ _ => (pe_cmpR op_ne (pe_ix (ix_tup' (K := K)) (pv 9) (pv 14) (fun _ _ => rfl)) pe_int (nomark _)))) pa_nil))))) (fun _ _ _ _ _ => (pe_ix (ix_list' (K := K)) (pv 3) (pv 14) (fun _ _ => rfl)))) (nomark _)) (pss_one (ps_ret pe_bl)) pss_nil)
      (pss_cons (ps_setLc (i := 8) (own := [("_law_row_here", 9)]) rfl sc_law_space_right.nd rfl rfl (sw_true rfl rfl rfl (by decide +kernel)) (pi_list (pv 6)) (blkOk_by (N := N_law_space_right) (sc := defScope st_law_space_right) (by decide +kernel)) (fun _ _ _ _ _ => (pg_name (i := 9) sc_law_space_right.nd rfl (Or.inl rfl) (Or.inr rfl))) (fun _ _ _ _ _ => pts_nil) (fun _ _ _ _ _ => (pe_g (ok_law_lead T) hr (by rfl) (pa_cons (pv 9) pa_nil))))
      (pss_cons (ps_for PassesOwn.never rfl (pi_list (pv 2)) (pg_name (i := 9) sc_law_space_right.nd rfl (Or.inl rfl) (Or.inr rfl)) (pss_cons (ps_set (i := 10) sc_law_space_right.nd rfl (Or.inl rfl) (pe_gm (pv 0) T.c_Space.cl (ok_Space_reduced T) hr (pa_cons (pe_g (ok_law_sum T) hr (by rfl) (pa_cons (pv 9) (pa_cons (pv 3) (pa_cons (pv 4) pa_nil)))) pa_nil)))
      (pss_cons (ps_set (i := 11) sc_law_space_right.nd rfl (Or.inr rfl) (pe_g (ok_law_row T) hr (by rfl) (pa_cons (pv 10) (pa_cons (pv 3) pa_nil))))
      (pss_cons (ps_if (PW.pt (pw_or (pt_val (pe_callB (cr_any rfl) (by rfl) T.n_any bo_any (pa_cons (pe_lc (own := [("_law_lead_here", 15)]) rfl sc_law_space_right.nd (pi_list (pv 8)) (blkOk_by (N := N_law_space_right) (sc := defScope st_law_space_right) (by decide +kernel)) (fun _ _ _ _ _ => (pg_name (i := 15) sc_law_space_right.nd rfl (Or.inl rfl) (Or.inr rfl))) (fun _ _ _ _ _ => pts_nil) (fun _ _ _ _ _ => (pe_cmpR op_ne (pe_ix (ix_tup' (K := K)) (pv 11) (pv 15) (fun _ _ => rfl)) pe_int (nomark _)))) pa_nil))) (pw_or1 (pt_cmpR op_ne (pe_ix ix_tup (pv 11) (pe_un un_neg pe_int) (fun _ _ => rfl)) pe_int (nomark _))))) (pss_one (ps_ret pe_bl)) pss_nil)
      (pss_cons (ps_if (PW.pt (pw_or (pt_cmpR (op_neT (List Str) hu1) (pe_gm0 (pv 10) T.c_Sum.cl (ok_Sum_names T) hr) (pe_g (ok_law_named T) hr (by rfl) (pa_cons (pv 11) (pa_cons (pv 3) pa_nil))) (nomark _)) (pw_or1 (pt_cmpR (op_notInT (PySem.W.Tup Int) hu1) (pe_g (ok_law_plus T) hr (by rfl) (pa_cons (pv 11) (pa_cons (pv 9) (pa_cons (pe_un un_neg pe_int) (pa_cons (pv 4) pa_nil))))) (pv 1) rfl)))) (pss_one (ps_ret pe_bl)) pss_nil)
      (pss_one (ps_if (pt_cmpR op_ne (pe_cmpR (op_inOwn (K := K) (ok_Space_contains T) hr) (pe_g (ok_law_sum T) hr (by rfl) (pa_cons (pv 9) (pa_cons (pv 3) (pa_cons (pv 4) pa_nil)))) (pv 0) rfl) (pe_cmpR (op_inT (PySem.W.Tup Int) hu1) (pv 9) (pv 1) rfl) (nomark _)) (pss_one (ps_ret pe_bl)) pss_nil)))))))
      (pss_cons (ps_set (i := 12) sc_law_space_right.nd rfl (Or.inl rfl) (pe_lst (pa_cons pe_non (pa_cons pe_int (pa_cons pe_bl (pa_cons pe_str (pa_cons (pe_ix ix_list (pv 3) pe_int (fun _ _ => rfl)) (pa_cons (pe_lst pa_nil) (pa_cons (pv 6) (pa_cons (pv 0) pa_nil))))))))))
      (pss_cons (ps_set (i := 12) sc_law_space_right.nd rfl (Or.inl rfl) (pe_op op_cat (pv 12) (pe_lst (pa_cons (pe_g (ok_Sum2 T) hr (by rfl) (pa_cons (pe_dget hu (pe_disp (pps_cons pe_int pe_int (pps_cons pe_int pe_int (pps_cons pe_int pe_int pps_nil))) (by rfl) (by rfl) (fun z => by cases z) (by decide)) (pv 4) (fun _ _ => rfl)) (pa_cons pe_dnewK pa_nil))) (pa_cons (pe_g (ok_Sum2 T) hr (by rfl) (pa_cons (pv 4) (pa_cons (pe_disp (pps_cons pe_str pe_int pps_nil) (by rfl) (by rfl) (fun z => by cases z) (by decide)) pa_nil))) pa_nil)))))
      (pss_one (ps_ret (pe_and (pe_cmpR (op_eqT (List Bool) hu1) (pe_lc (own := [("_law_thing", 16)]) rfl sc_law_space_right.nd (pi_list (pv 12)) (blkOk_by (N := N_law_space_right) (sc := defScope st_law_space_right) (by decide +kernel)) (fun _ _ _ _ _ => (pg_name (i := 16) sc_law_space_right.nd rfl (Or.inl rfl) (Or.inr rfl))) (fun _ _ _ _ _ => pts_nil) (fun _ _ _ _ _ => (pe_cmpR (op_inOwn (K := K) (ok_Space_contains T) hr) (pv 16) (pv 0) rfl))) (pe_op op_rep (pe_lst (pa_cons pe_bl pa_nil)) (pe_callB call_len_seq (by rfl) T.n_len bo_len (pa_cons (pv 12) pa_nil))) (nomark _)) (pe_one (pe_cmpR (op_inOwn (K := K) (ok_Space_contains T) hr) (pe_g (ok_Sum T) hr (by rfl) (pa_cons (pv 4) (pa_cons pe_dnewK (pa_cons (pe_op op_sub (pv 4) pe_int) pa_nil)))) (pv 0) rfl)))))))))))))))), ?_⟩
    obtain ⟨SP, hsup, hqn, hlen, hso, hsub, hzz, V2, V3, hN, hspn, hall⟩ := SR
    obtain ⟨q2, q5, qn⟩ := hqn.1.le
    have hn5 : n ≤ 5 := hqn.2.2.2
    have hq0 : 0 < q := by omega
    obtain ⟨dx, D, hp, hLD⟩ := SP.at_.ex
    have hLl : (bs L).length = L.length := List.length_map _
    have hL7 : L.length ≤ 7 := Nat.le_trans SP.len SP.uo.ln
    have RN : Rref q ns (bs L) := SP.rr.onNs hsup
    have hL5 : L.length ≤ 5 := by
      have h1 := len_sub (m := ns) RN.nd fun x hx => by
        obtain ⟨r, hr, rfl⟩ := List.mem_map.mp hx
        exact RN.lead_in hr
      rw [List.length_map, hLl, hlen] at h1
      omega
    have noF : ∀ {m : Str}, ¬ m = "own_rows" → ¬ m = "own_modulus" → (spF q D).lookup m = none := fun h1 h2 => spF_no q D h1 h2
    refine ⟨_, rfl, p, dx, _, rfl, hp, noF (by decide +kernel) (by decide +kernel), p, U, q, L, rfl, SP, fun H1 told ps s1 hto eto hps => ?_⟩
    have hpl : ps.length = L.length := by rw [Paired.length hps, hLl]
    refine ⟨_, rfl, told, rfl, ⟨_, .inl (.inl eto)⟩, fun RW hRW => ?_⟩
    refine lcL ps V.ref (fun i H' => ∃ rs : Tl, Same H1 H' ∧ VL K H' RW rs ∧ vals rs = ((bs L).take i).map fun r => rowV ns r.2 0) ⟨[], same_new hRW, ⟨upd_same, fun t ht => nomatch ht⟩, rfl⟩ (fun i H' z => ?_) ?_ ?_
    · obtain ⟨rs, s2, _⟩ := z
      exact .inl (.inl (s2 _ _ eto))
    · rintro i a H2 ha ⟨rs, s2, Vr, er⟩
      obtain ⟨r, hr0, Sr⟩ := paired_get hps ha
      have hi : i < ps.length := (List.getElem?_eq_some_iff.mp ha).1
      refine ⟨rfl, _, rfl, _, rfl, a, lN, q, 0, ns, U, r.2, rfl, Sr.same s2, SP.uo.nd, s2 _ _ (s1 _ _ hN), by omega, fun H3 b s3 hb eb => ?_⟩
      have Vr3 := Vr.same s3
      refine ⟨_, Vr3.at_, ?_, rs ++ [(b, rowV ns r.2 0)], same_mut (s2.trans s3) hRW, Vr3.snoc eb, ?_⟩
      · rw [List.length_map]
        have := congrArg List.length er
        rw [vals_len, List.length_map, List.length_take] at this
        exact small1000 (by omega)
      · show (rs ++ _).map _ = _
        rw [take_snoc hr0, List.map_append, List.map_append]
        exact congrArg (· ++ _) er
    rintro H2 ⟨rs, s2, Vr, er⟩
    rw [hpl, ← hLl, List.take_length] at er
    have hrl : rs.length = L.length := by
      have := congrArg List.length er
      rw [vals_len, List.length_map, hLl] at this
      exact this
    have hrow : ∀ {i : Nat} {t : Addr × List Int}, rs[i]? = some t → ∃ r, (bs L)[i]? = some r ∧ t.2 = rowV ns r.2 0 := fun ht => vals_get er ht
    have s02 : Same H H2 := s1.trans s2
    refine ⟨_, rfl, RW, rfl, ⟨_, Vr.sq⟩, fun MD hMD => ?_⟩
    refine lcL rs fRef (fun i H' => ∃ ms : List Addr, Same H2 H' ∧ H' MD = some (.lst (ms.map V.ref)) ∧ Paired (fun a (r : Str × (Str → Int)) => SumAt CS H' a U q r.2 0) ms ((bs L).take i)) ⟨[], same_new hMD, upd_same, .nil⟩ (fun i H' z => ?_) ?_ ?_
    · obtain ⟨ms, s3, _⟩ := z
      exact (Vr.same s3).sq
    · rintro i t H3 ht ⟨ms, s3, em, hms⟩
      obtain ⟨r, hr0, e⟩ := hrow ht
      have hrm := List.mem_of_getElem? hr0
      have hi : i < rs.length := (List.getElem?_eq_some_iff.mp ht).1
      have htq := (Vr.same s3).el t (List.mem_of_getElem? ht)
      have hvec : Vec n q t.2 := by
        rw [e]
        exact rowV_vec hlen (RN.rg r hrm) ⟨Int.le_refl _, hq0⟩
      refine ⟨rfl, _, rfl, _, rfl, _, rfl, t.1, lN, q, ns, U, t.2, rfl, htq, s3 _ _ (s02 _ _ hN), by rw [hvec.1, hlen], by omega, hvec.2, ⟨slt_nodup hso, hsub, SP.uo⟩, hqn.1, fun H4 a s4 ha S => ?_⟩
      rw [e, toF_eq (hsup r hrm), cst_rowV] at S
      have em4 := s4 _ _ em
      have hml : ms.length ≤ i := by
        rw [Paired.length hms, List.length_take]
        omega
      refine ⟨_, em4, ?_, ms ++ [a], same_mut (s3.trans s4) hMD, ?_, ?_⟩
      · rw [List.length_map]
        exact small1000 (by omega)
      · rw [upd_same, List.map_append]
        rfl
      · rw [take_snoc hr0]
        exact paired_snoc (paired_mono hms fun b r h => (h.same s4).updL em4) (S.updL em4)
    rintro H3 ⟨ms, s3, em, hms⟩
    rw [hrl, ← hLl, List.take_length] at hms
    have s03 : Same H H3 := s02.trans s3
    have eto3 := s3 _ _ (s2 _ _ eto)
    refine ⟨_, rfl, _, _, _, _, true, rfl, .ty _, .base (.lst eto3), kit_ty (K := K) (a := "list") (b := "list") (r := true) (by decide +kernel), true, rfl, iteF ?_⟩
    have hml : ms.length = L.length := by rw [Paired.length hms, hLl]
    have hprs : Prs (DIns CS (SumEq CS)) (ms.map V.ref) (ps.map V.ref) H3 := by
      refine ⟨by rw [List.length_map, List.length_map, hml, hpl], fun i x y hx hy => ?_⟩
      rw [List.getElem?_map] at hx hy
      cases hm : ms[i]? with
      | none => rw [hm] at hx; cases hx
      | some a =>
        cases hpp : ps[i]? with
        | none => rw [hpp] at hy; cases hy
        | some b =>
          rw [hm] at hx
          rw [hpp] at hy
          obtain rfl := Option.some.inj hx
          obtain rfl := Option.some.inj hy
          obtain ⟨r, hr1, S1⟩ := paired_get hms hm
          obtain ⟨r', hr2, S2⟩ := paired_get hps hpp
          rw [hr1] at hr2
          obtain rfl := Option.some.inj hr2
          have S2 := S2.same (s2.trans s3)
          obtain ⟨d1, e1, g1, _⟩ := S1.ex
          obtain ⟨d2, e2, g2, _⟩ := S2.ex
          exact ⟨a, b, d1, d2, _, _, rfl, rfl, g1, g2, U, q, r.2, 0, SP.uo.nd, S1, S2⟩
    refine ⟨_, rfl, _, rfl, ⟨MD, told, _, _, rfl, rfl, em, eto3, hprs⟩, fun H4 s4 => ⟨false, rfl, iteF ?_⟩⟩
    have s4 : Same H3 H4 := s4
    have s04 : Same H H4 := s03.trans s4
    have s24 : Same H2 H4 := s3.trans s4
    have hp4 := s04 _ _ hp
    refine ⟨_, rfl, p, dx, _, rfl, hp4, p, dx, D, q, rfl, hp4, _, rfl, rfl, false, by simp, iteF ?_⟩
    refine ⟨_, rfl, p, dx, _, rfl, hp4, p, _, q, L, rfl, SP.at_.same s04, _, rfl, RW, _, rfl, .inl (Vr.same s24).sq, rfl, false, by rw [List.length_map, hrl]; simp, iteF ?_⟩
    have hE := ech_of hlen hso RN (by
      show (((L.map fun p => (p.1, p.2.2)) : Bs).map (·.1)).Pairwise slt
      rw [List.map_map]
      exact SP.at_.so) er
    have hin : ∀ t ∈ rs, t.2 ∈ vals ss ∧ cst t.2 = 0 := fun t ht => by
      obtain ⟨i, hi⟩ := List.getElem?_of_mem ht
      obtain ⟨r, hr1, e⟩ := hrow hi
      rw [e, cst_rowV]
      exact ⟨row_in hq0 hlen RN hspn (List.mem_of_getElem? hr1), rfl⟩
    have hpow : q ^ (rs.length + 1) = (ss.length : Int) := by
      have h1 := hspn.count hqn.1 (slt_nodup hso) hlen RN
      rw [vals_len, hLl] at h1
      rw [h1, hrl, Int.natCast_pow, qn]
    refine ⟨_, rfl, _, rfl, _, rfl, RW, l2, rs, ss, q, n, _, rfl, hqn, Vr.same s24, V2.same s04, by omega, hE, hin, hpow, fun H5 s5 => ⟨true, rfl, iteF ?_⟩⟩
    have s05 := s04.trans s5
    have s25 := s24.trans s5
    have eto5 := s25 _ _ (s2 _ _ eto)
    refine ⟨_, rfl, .inl ⟨rfl, _, .inl (.inl eto5)⟩, told, _, _, rfl, rfl, eto5, ?_, ?_⟩
    · rw [List.length_map]
      exact small1000 (by omega)
    have s06 : Same H (upd H5 told (.lst (ps.map V.ref ++ [.non]))) := same_mut s05 hto
    have ntR : told ≠ RW := ne_of_none eto hRW
    have V6 : VL K (upd H5 told (.lst (ps.map V.ref ++ [.non]))) RW rs := (Vr.same s25).keep sameB_upd eto5 ntR.symm
    generalize upd H5 told (.lst (ps.map V.ref ++ [.non])) = H6 at s06 V6 ⊢
    have hp6 := s06 _ _ hp
    have hN6 := s06 _ _ hN
    refine ⟨_, rfl, p, dx, _, rfl, hp6, noF (by decide +kernel) (by decide +kernel), p, U, q, L, rfl, SP.same s06, fun H7 l7 s7 hl7 el7 => ?_⟩
    have s67 := s7
    have hN7 := s7 _ _ hN6
    have V7 := V6.same s7
    refine ⟨_, rfl, lN, _, rfl, .inl (.inl (.inl hN7)), _, rfl, by rw [List.length_map]; omega, by rw [List.length_map]; omega, fun NM hNM => ?_⟩
    rw [List.length_map, Int.toNat_natCast, hlen]
    refine lcR n (fun i H' => Same H7 H' ∧ H' NM = some (.lst ((((List.range i).filter fun a => rs.any fun t => decide (t.2.getD a 0 ≠ 0)).map fun a => ns.getD a "").map V.str))) ⟨same_new hNM, by rw [upd_same]; rfl⟩ ?_ ?_
    · rintro i H8 hi ⟨s8, e8⟩
      refine ⟨rfl, _, rfl, RW, rfl, ⟨_, (V7.same s8).sq⟩, fun E9 hE9 => ?_⟩
      refine lcL rs fRef (fun j H' => Same H8 H' ∧ H' E9 = some (.lst (((rs.take j).map fun t => decide (t.2.getD i 0 ≠ 0)).map V.bl))) ⟨same_new hE9, by rw [upd_same]; rfl⟩ (fun j H' z => ((V7.same s8).same z.1).sq) ?_ ?_
      · rintro j t H9 ht ⟨s9, e9⟩
        have htm := List.mem_of_getElem? ht
        have hj : j < rs.length := (List.getElem?_eq_some_iff.mp ht).1
        have hvl := hE.vl t htm
        refine ⟨rfl, _, rfl, _, rfl, t.1, _, _, _, rfl, rfl, ((V7.same s8).same s9).el t htm, by rw [Int.zero_add]; exact atI_getD (by omega), rfl, _, e9, ?_, same_mut s9 hE9, ?_⟩
        · rw [List.length_map, List.length_map, List.length_take]
          exact small1000 (by omega)
        · rw [upd_same, take_snoc ht, List.map_append, List.map_append, ne_bl]
          rfl
      rintro H9 ⟨s9, e9⟩
      rw [List.take_length] at e9
      have hany : (rs.map fun t => decide (t.2.getD i 0 ≠ 0)).any id = rs.any fun t => decide (t.2.getD i 0 ≠ 0) := by
        rw [List.any_map]
        rfl
      have er9 : (List.range (i + 1)).filter (fun a => rs.any fun t => decide (t.2.getD a 0 ≠ 0)) = (List.range i).filter (fun a => rs.any fun t => decide (t.2.getD a 0 ≠ 0)) ++ if (rs.any fun t => decide (t.2.getD i 0 ≠ 0)) = true then [i] else [] := by
        rw [List.range_succ, List.filter_append, List.filter_cons]
        rfl
      refine ⟨E9, _, rfl, .inl (.inl e9), _, rfl, ite2 (fun ht => ?_) (fun hf => ?_)⟩
      · rw [hany] at ht
        have hNi : (ns.map V.str)[i]? = some (V.str (ns.getD i "")) := at_map (by rw [List.getD_eq_getElem?_getD, List.getElem?_eq_getElem (by omega)]; rfl)
        refine ⟨_, rfl, _, rfl, lN, _, _, _, rfl, rfl, .inl (.inl ((s8.trans s9) _ _ hN7)), by rw [Int.zero_add]; exact atI_nat hNi, _, s9 _ _ e8, ?_, same_mut (s8.trans s9) hNM, ?_⟩
        · rw [List.length_map, List.length_map]
          have := List.length_filter_le (fun a => rs.any fun t => decide (t.2.getD a 0 ≠ 0)) (List.range i)
          rw [List.length_range] at this
          exact small1000 (by omega)
        · rw [upd_same, er9, if_pos ht, List.map_append, List.map_append]
          rfl
      · rw [hany] at hf
        refine ⟨s8.trans s9, ?_⟩
        rw [er9, if_neg hf, List.append_nil]
        exact s9 _ _ e8
    rintro H8 ⟨s8, e8⟩
    have hnames := names_eq hlen hso SP.uo.so hsub hsup er
    rw [← hnames] at e8
    refine ⟨usedN U L, usedN U L, hd_strs (.inl (.inl (s8 _ _ el7))), hd_strs (.inl (.inl e8)), false, by simp, iteF ?_⟩
    have s08 : Same H H8 := (s06.trans s7).trans s8
    have V8 := V7.same s8
    let ls : List Nat := (bs L).map fun r => ns.idxOf r.1
    have hE : Ech n rs ls := hE
    have hlsl : ls.length = rs.length := hE.len
    refine ⟨_, rfl, RW, rfl, ⟨_, V8.sq⟩, fun LD hLD8 => ?_⟩
    have hLD0 : H LD = none := none_of s08 hLD8
    refine lcL rs fRef (fun i H' => Same H8 H' ∧ H' LD = some (.lst ((ls.take i).map fNat))) ⟨same_new hLD8, by rw [upd_same]; rfl⟩ (fun i H' z => (V8.same z.1).sq) ?_ ?_
    · rintro i t H9 ht ⟨s9, e9⟩
      have htm := List.mem_of_getElem? ht
      have hi : i < rs.length := (List.getElem?_eq_some_iff.mp ht).1
      have hvl := hE.vl t htm
      have ha : ls[i]? = some (ls[i]'(by omega)) := List.getElem?_eq_getElem _
      have hLv := hE.ld i t _ ht ha
      generalize ls[i]'(by omega) = a at ha hLv
      refine ⟨rfl, _, rfl, t.1, t.2, rfl, (V8.same s9).el t htm, by omega, ⟨a, hLv.1, hLv.2.1⟩, fun H10 b s10 hb => ?_⟩
      obtain rfl := hb.uniq hLv
      refine ⟨_, s10 _ _ e9, ?_, same_mut (s9.trans s10) hLD8, ?_⟩
      · rw [List.length_map, List.length_take]
        exact small1000 (by omega)
      · rw [upd_same, take_snoc ha, List.map_append]
        rfl
    rintro H9 ⟨s9, e9⟩
    rw [← hlsl, List.take_length] at e9
    have s09 : Same H H9 := s08.trans s9
    have V9 := V8.same s9
    have V39 := V3.same s09
    refine ⟨_, rfl, l3, rfl, ⟨_, V39.sq⟩, ?_⟩
    refine forL es fRef (fun i σ H' => ∃ v9 v10 v11 v12 v13 v14 v15 v16, σ = [some (.ref p), some (.ref l2), some (.ref l3), some (.ref lN), some (.int q), some (.ref told), some (.ref RW), some (.ref MD), some (.ref LD), v9, v10, v11, v12, v13, v14, v15, v16] ∧ Same H9 H') ⟨_, _, _, _, _, _, _, _, rfl, fun _ _ h => h⟩ (fun i σ H' z => ?_) ?_ ?_
    · obtain ⟨_, _, _, _, _, _, _, _, _, s10⟩ := z
      exact (V39.same s10).sq
    · rintro i t σ H10 ht ⟨v9, v10, v11, v12, v13, v14, v15, v16, rfl, s10⟩
      have htm := List.mem_of_getElem? ht
      have hv : Vec n q t.2 := (hall _).mp (List.mem_map_of_mem htm)
      have s010 := s09.trans s10
      have htq := (V39.same s10).el t htm
      have hNms : Nms U ns := ⟨slt_nodup hso, hsub, SP.uo⟩
      have hf := vec_rg (ns := ns) hq0 hv
      have hp10 := s010 _ _ hp
      refine ⟨_, rfl, p, dx, _, rfl, hp10, noF (by decide +kernel) (by decide +kernel), _, rfl, _, rfl, _, rfl, t.1, lN, q, ns, U, t.2, rfl, htq, s010 _ _ hN, by rw [hv.1, hlen], by omega, hv.2, hNms, hqn.1, fun H11 a s11 ha S => ?_⟩
      have s011 := s010.trans s11
      refine ⟨p, a, U, q, toF ns t.2, cst t.2, L, rfl, SP.same s011, S, fun H12 lf s12 hlf S12 => ?_⟩
      have s012 := s011.trans s12
      refine ⟨_, rfl, _, rfl, lf, lN, q, 0, ns, U, red q (toF ns t.2) (bs L), rfl, S12, SP.uo.nd, s012 _ _ hN, by omega, fun H13 re s13 hre hrq => ?_⟩
      have s013 := s012.trans s13
      have S13 := S12.same s13
      have s813 : Same H9 H13 := ((s10.trans s11).trans s12).trans s13
      have hrv := rowV_vec (c := 0) hlen (red_rg hq0 hf (bs L)) ⟨Int.le_refl _, hq0⟩
      refine ⟨_, rfl, LD, rfl, ⟨_, .inl (.inl (s813 _ _ e9))⟩, fun E14 hE14 => ?_⟩
      refine lcL ls fNat (fun j H' => Same H13 H' ∧ H' E14 = some (.lst ((List.replicate j false).map V.bl))) ⟨same_new hE14, upd_same⟩ (fun j H' z => .inl (.inl (z.1 _ _ (s813 _ _ e9)))) ?_ ?_
      · rintro j b H14 hb ⟨s14, e14⟩
        have hj : j < ls.length := (List.getElem?_eq_some_iff.mp hb).1
        obtain ⟨r, hr1, rfl⟩ := List.mem_map.mp (List.mem_of_getElem? hb)
        have hid := idx_at (RN.lead_in hr1)
        have hil : ns.idxOf r.1 < n := by rw [← hlen]; exact List.idxOf_lt_length_of_mem (RN.lead_in hr1)
        refine ⟨rfl, _, rfl, _, rfl, re, _, _, _, rfl, rfl, same_sqt s14 hrq, atI_getD (by rw [hrv.1]; omega), rfl, _, e14, ?_, same_mut s14 hE14, ?_⟩
        · rw [List.length_map, List.length_replicate]
          exact small1000 (by omega)
        · rw [upd_same, rep_snoc, List.map_append, rowV_getD hid, RN.red_lead hq0 hf hr1]
          rfl
      rintro H14 ⟨s14, e14⟩
      refine ⟨E14, List.replicate ls.length false, rfl, .inl (.inl e14), false, by rw [List.any_replicate]; simp, iteF ?_⟩
      have hrq14 := same_sqt s14 hrq
      refine ⟨_, rfl, 1, rfl, re, _, _, _, rfl, rfl, hrq14, last_at hrv.1, rfl, false, by rw [cst_rowV]; rfl, iteF ?_⟩
      have S14 := S13.same s14
      have s014 := s013.trans s14
      obtain ⟨dx3, d3, g3, _⟩ := S14.ex
      refine ⟨_, rfl, lf, dx3, _, rfl, g3, sumF_no q d3 0 (by decide +kernel) (by decide +kernel) (by decide +kernel), lf, U, q, _, 0, rfl, S14, fun H15 a1 s15 _ e15 => ?_⟩
      have s015 := s014.trans s15
      refine ⟨_, rfl, _, rfl, re, lN, _, ns, rfl, same_sqt s15 hrq14, s015 _ _ hN, by rw [hrv.1, hlen], by omega, fun H16 a2 s16 _ e16 => ?_⟩
      have hsame : (U.filter fun x => decide (red q (toF ns t.2) (bs L) x ≠ 0)) = namedV ns (rowV ns (red q (toF ns t.2) (bs L)) 0) := by
        rw [named_row]
        exact filter_ns hso SP.uo.so hsub fun x hx => RN.red_sup hq0 hf (fun x h => toF_sup h) (of_decide_eq_true hx)
      refine ⟨_, _, hd_strs (.inl (.inl (s16 _ _ e15))), hd_strs (.inl (.inl e16)), false, by rw [hsame]; simp, iteF ?_⟩
      have s016 := s015.trans s16
      have s1016 : Same H10 H16 := (((((s11.trans s12).trans s13).trans s14).trans s15).trans s16)
      have htq16 := same_sqt s1016 htq
      refine ⟨_, rfl, _, rfl, 1, rfl, _, rfl, re, t.1, _, t.2, -1, q, rfl, same_sqt (s15.trans s16) hrq14, htq16, by rw [hrv.1, hv.1], by rw [hrv.1]; omega, by omega, by omega, hq0, fun H17 pl s17 _ epl => ?_⟩
      have s017 := s016.trans s17
      have hli : decide (PySem.W.Tup.mk (plusV (-1) q (rowV ns (red q (toF ns t.2) (bs L)) 0) t.2) ∉ (vals ss).map PySem.W.Tup.mk) = false := decide_eq_false fun h => tup_notin.mp h (left_in hqn.1 hlen RN hspn hv)
      refine ⟨_, rfl, ⟨_⟩, (vals ss).map PySem.W.Tup.mk, l2, _, hd_tup (.inl (.inl epl)), rfl, (V2.same s017).sq, dp_tups (V2.same s017).el, false, by rw [hli], iteF ?_⟩
      have htq17 := same_sqt s17 htq16
      refine ⟨_, rfl, _, rfl, _, rfl, t.1, lN, q, ns, U, t.2, rfl, htq17, s017 _ _ hN, by rw [hv.1, hlen], by omega, hv.2, hNms, hqn.1, fun H18 b s18 _ S18 => ?_⟩
      have s018 := s017.trans s18
      have hp18 := s018 _ _ hp
      refine ⟨_, rfl, p, dx, _, rfl, hp18, p, .ref b, q, dx, D, rfl, hp18, .inl ⟨b, WU U, U, toF ns t.2, cst t.2, L, rfl, SP.at_.same s018, S18, SP.uo.nd, SP.uo.nm0, (fun x hx => List.mem_cons_of_mem _ hx), List.mem_cons_self, by have := SP.uo.ln; omega, by have := SP.uo.ln; show U.length + 1 ≤ 1000; omega, hq0, by omega, fun H19 bb s19 hbb => ⟨bb, rfl, ?_⟩⟩⟩
      have s019 := s018.trans s19
      have htq19 := same_sqt (s18.trans s19) htq17
      have hbd : bb = decide (PySem.W.Tup.mk t.2 ∈ (vals ss).map PySem.W.Tup.mk) := by
        have h1 := hbb.trans (noC_in hqn.1 SP.uo hsub RN hspn hv)
        rw [Bool.eq_iff_iff, h1, decide_eq_true_iff]
        exact ⟨fun h => List.mem_map_of_mem h, fun h => Classical.byContradiction fun z => (tup_notin.mpr z) h⟩
      refine ⟨_, rfl, _, rfl, ⟨t.2⟩, (vals ss).map PySem.W.Tup.mk, l2, _, hd_tup htq19, rfl, (V2.same s019).sq, dp_tups (V2.same s019).el, rfl, false, by rw [hbd]; simp, iteF ⟨_, _, _, _, _, _, _, _, rfl, ?_⟩⟩
      exact ((s10.trans s1016).trans s17).trans (s18.trans s19)
    · rintro σ H10 ⟨v9, v10, v11, v12, v13, v14, v15, v16, rfl, s10⟩
      have s010 := s09.trans s10
      have hn1 := hqn.2.1
      have hN0 : (ns.map V.str)[0]? = some (V.str (ns.getD 0 "")) := at_map (by rw [List.getD_eq_getElem?_getD, List.getElem?_eq_getElem (by omega)]; rfl)
      have hsz : sizeLine ≥ 1000000 := by decide
      refine ⟨_, rfl, lN, _, 0, _, rfl, rfl, .inl (.inl (s010 _ _ hN)), atI_nat (i := 0) hN0, Nat.zero_le _, fun g1 hg1 => ?_⟩
      refine ⟨_, rfl, _, rfl, (by show 8 ≤ sizeLine; omega), fun O1 hO1 => ?_⟩
      have sO : Same H10 (upd (upd H10 g1 (.lst [])) O1 (.lst [.non, .int 0, .bl true, .str "x", .str (ns.getD 0 ""), .ref g1, .ref RW, .ref p])) := (same_new hg1).trans (same_new hO1)
      have eO1 : (upd (upd H10 g1 (.lst [])) O1 (.lst [.non, .int 0, .bl true, .str "x", .str (ns.getD 0 ""), .ref g1, .ref RW, .ref p])) O1 = some (.lst [.non, .int 0, .bl true, .str "x", .str (ns.getD 0 ""), .ref g1, .ref RW, .ref p]) := upd_same
      have eg1 : (upd (upd H10 g1 (.lst [])) O1 (.lst [.non, .int 0, .bl true, .str "x", .str (ns.getD 0 ""), .ref g1, .ref RW, .ref p])) g1 = some (.lst []) := same_new hO1 _ _ upd_same
      refine ⟨_, rfl, ?_⟩
      generalize upd (upd H10 g1 (.lst [])) O1 (.lst [.non, .int 0, .bl true, .str "x", .str (ns.getD 0 ""), .ref g1, .ref RW, .ref p]) = H11 at sO eO1 eg1 ⊢
      obtain ⟨m, hm, hmq, hget⟩ : ∃ m, Qok m ∧ m ≠ q ∧ valV (mergeK [] [((Sum.inl 2 : Key), V.int 3), (Sum.inl 3, V.int 5), (Sum.inl 5, V.int 2)]) (Sum.inl q : Key) = some (.int m) := by
        rcases hqn.1 with rfl | rfl | rfl
        · exact ⟨3, .inr (.inl rfl), by decide, rfl⟩
        · exact ⟨5, .inr (.inr rfl), by decide, rfl⟩
        · exact ⟨2, .inl rfl, by decide, rfl⟩
      intro d1 hd1
      refine ⟨upd_same, [((Sum.inl 2 : Key), V.int 3), (Sum.inl 3, V.int 5), (Sum.inl 5, V.int 2)], rfl, (by show 3 ≤ 15; decide), ?_⟩
      refine ⟨_, rfl, d1, .int m, rfl, .inl ⟨_, Sum.inl q, .inl upd_same, rfl, hget.symm⟩, ?_⟩
      have s11 : Same H11 (upd (upd H11 d1 (.dK [])) d1 (.dK (mergeK [] [((Sum.inl 2 : Key), V.int 3), (Sum.inl 3, V.int 5), (Sum.inl 5, V.int 2)]))) := same_mut (same_new hd1) hd1
      generalize upd (upd H11 d1 (.dK [])) d1 (.dK (mergeK [] [((Sum.inl 2 : Key), V.int 3), (Sum.inl 3, V.int 5), (Sum.inl 5, V.int 2)])) = H12 at s11 ⊢
      intro d2 hd2
      have hm2 := hm.le
      refine ⟨d2, m, rfl, d2, m, 0, U, [], fun _ => 0, rfl, hm, upd_same, Tb.nil, (fun x => ⟨Int.le_refl (0 : Int), (by omega : (0 : Int) < m)⟩), SP.uo, Int.le_refl _, by omega, fun H13 b1 s13 _ SB1 => ?_⟩
      have s1013 : Same H10 H13 := sO.trans (s11.trans ((same_new hd2).trans s13))
      refine ⟨_, rfl, fun d3 hd3 => ⟨upd_same, [((Sum.inr "zzzz" : Key), V.int 1)], rfl, (by show 1 ≤ 15; decide), ?_⟩⟩
      have s1314 : Same H13 (upd (upd H13 d3 (.dK [])) d3 (.dK (mergeK [] [((Sum.inr "zzzz" : Key), V.int 1)]))) := same_mut (same_new hd3) hd3
      have ed3 : (upd (upd H13 d3 (.dK [])) d3 (.dK (mergeK [] [((Sum.inr "zzzz" : Key), V.int 1)]))) d3 = some (.dK [((Sum.inr "zzzz" : Key), V.int 1)]) := by
        rw [upd_same]
        rfl
      generalize upd (upd H13 d3 (.dK [])) d3 (.dK (mergeK [] [((Sum.inr "zzzz" : Key), V.int 1)])) = H14 at s1314 ed3 ⊢
      refine ⟨d3, q, rfl, d3, q, 0, U, _, unitF "zzzz", rfl, hqn.1, ed3, tb_unit hzz.1, fun y => ?_, SP.uo, by omega, by omega, fun H15 b2 s15 _ SB2 => ?_⟩
      · unfold unitF
        split <;> omega
      have s1315 := s1314.trans s15
      have SB1' := SB1.same s1315
      refine ⟨(by show 2 ≤ sizeLine; omega), fun O2 hO2 => ?_⟩
      have s1016 := (s1013.trans s1315).trans (same_new (o := .lst [.ref b1, .ref b2]) hO2)
      have s1316 := s1315.trans (same_new (o := .lst [.ref b1, .ref b2]) hO2)
      have s1116 : Same H11 (upd H15 O2 (.lst [.ref b1, .ref b2])) := (s11.trans ((same_new hd2).trans s13)).trans s1316
      refine ⟨O1, O2, _, _, rfl, rfl, s1116 _ _ eO1, upd_same, (by show 8 + 2 ≤ sizeLine; omega), fun O3 hO3 => ?_⟩
      have hO3e : (upd (upd H15 O2 (.lst [.ref b1, .ref b2])) O3 (.lst ([.non, .int 0, .bl true, .str "x", .str (ns.getD 0 ""), .ref g1, .ref RW, .ref p] ++ [.ref b1, .ref b2]))) O3 = some (.lst ([.non, .int 0, .bl true, .str "x", .str (ns.getD 0 ""), .ref g1, .ref RW, .ref p, .ref b1, .ref b2])) := upd_same
      have s1617 := same_new (o := .lst ([.non, .int 0, .bl true, .str "x", .str (ns.getD 0 ""), .ref g1, .ref RW, .ref p] ++ [.ref b1, .ref b2])) hO3
      generalize upd (upd H15 O2 (.lst [.ref b1, .ref b2])) O3 (.lst ([.non, .int 0, .bl true, .str "x", .str (ns.getD 0 ""), .ref g1, .ref RW, .ref p] ++ [.ref b1, .ref b2])) = H17 at hO3e s1617 ⊢
      have s017 : Same H H17 := (s010.trans s1016).trans s1617
      have hp17 := s017 _ _ hp
      have eg17 := s1617 _ _ (s1116 _ _ eg1)
      have V17 := (V9.same s10).same (s1016.trans s1617)
      have SB1'' := SB1.same (s1316.trans s1617)
      have SB2'' := SB2.same ((same_new (o := .lst [.ref b1, .ref b2]) hO2).trans s1617)
      have odd : ∀ x ∈ ([.non, .int 0, .bl true, .str "x", .str (ns.getD 0 ""), .ref g1, .ref RW, .ref p, .ref b1, .ref b2] : List V), ∀ H' (Qb : VK), Same H17 H' → (∀ H'', Same H' H'' → Qb (.bl false) H'') → spContains K CS CP [.ref p, x] H' Qb E0 := by
        intro x hx H' Qb s' kb
        have fin : ∀ t, TyX K H' x t → PySem.W.kitOne K t (.ref CS) = some false → spContains K CS CP [.ref p, x] H' Qb E0 := fun t h1 h2 => ⟨p, x, q, dx, D, rfl, s' _ _ hp17, .inr (.inr ⟨t, h1, h2, kb _ fun _ _ h => h⟩)⟩
        simp only [List.mem_cons, List.not_mem_nil, or_false] at hx
        rcases hx with rfl | rfl | rfl | rfl | rfl | rfl | rfl | rfl | rfl | rfl
        · exact fin _ (.base .non) (T.k_TS _ (by simp))
        · exact fin _ (.base (.int _)) (T.k_TS _ (by simp))
        · exact fin _ (.base (.bl _)) (T.k_TS _ (by simp))
        · exact fin _ (.base (.str _)) (T.k_TS _ (by simp))
        · exact fin _ (.base (.str _)) (T.k_TS _ (by simp))
        · exact fin _ (.base (.lst (s' _ _ eg17))) (T.k_TS _ (by simp))
        · exact fin _ (.base (.lst (s' _ _ V17.at_))) (T.k_TS _ (by simp))
        · exact fin _ (.base (.ins (s' _ _ hp17) T.c_Space.cl T.c_Space.ic T.gg T.gt T.c_Space.mo)) T.k_PS
        · obtain ⟨dx4, d4, g4, _⟩ := (SB1''.same s').ex
          exact ⟨p, _, q, dx, D, rfl, s' _ _ hp17, .inr (.inl ⟨b1, dx4, _, m, rfl, g4, sumF_m m d4 0, hmq, kb _ fun _ _ h => h⟩)⟩
        · refine ⟨p, _, q, dx, D, rfl, s' _ _ hp17, .inl ⟨b2, WU U, U, unitF "zzzz", 0, L, rfl, SP.at_.same (s017.trans s'), SB2''.same s', SP.uo.nd, SP.uo.nm0, (fun x hx => List.mem_cons_of_mem _ hx), List.mem_cons_self, by have := SP.uo.ln; omega, by have := SP.uo.ln; show U.length + 1 ≤ 1000; omega, hq0, by omega, fun H'' b s'' hb => ?_⟩⟩
          have hfalse : b = false := by
            cases b with
            | false => rfl
            | true =>
              exfalso
              have h1 := hb.mp rfl
              have hrz := SB2''.rg
              have hu0 : unitF "zzzz" "" = 0 := by decide +kernel
              rw [noC_red hq0 SP.rr SP.uo.nm0 hrz hu0 ⟨Int.le_refl _, hq0⟩] at h1
              have h2 := ((inS_red hq0 hrz).mpr h1).2 "zzzz"
              rw [comb_off RN _ hzz.2] at h2
              have h3 : unitF "zzzz" "zzzz" = 1 := by unfold unitF; rw [if_pos rfl]
              rw [h3] at h2
              obtain ⟨z, hz⟩ := h2
              rcases hqn.1 with e | e | e <;> rw [e] at hz <;> omega
          rw [hfalse]
          exact kb _ s''
      generalize hth : ([.non, .int 0, .bl true, .str "x", .str (ns.getD 0 ""), .ref g1, .ref RW, .ref p, .ref b1, .ref b2] : List V) = things at hO3e odd
      have hthl : things.length = 10 := by rw [← hth]; rfl
      refine ⟨_, rfl, O3, rfl, ⟨_, .inl (.inl hO3e)⟩, fun E18 hE18 => ?_⟩
      refine lcL things (fun x => x) (fun i H' => Same H17 H' ∧ H' E18 = some (.lst ((List.replicate i false).map V.bl))) ⟨same_new hE18, upd_same⟩ (fun i H' z => .inl (.inl (by rw [List.map_id']; exact z.1 _ _ hO3e))) ?_ ?_
      · rintro i x H18 hx ⟨s18, e18⟩
        have hi : i < things.length := (List.getElem?_eq_some_iff.mp hx).1
        refine ⟨rfl, _, rfl, _, rfl, p, dx, _, rfl, s18 _ _ hp17, odd x (List.mem_of_getElem? hx) _ _ s18 fun H19 s19 => ⟨false, rfl, _, s19 _ _ e18, ?_, same_mut (s18.trans s19) hE18, ?_⟩⟩
        · rw [List.length_map, List.length_replicate]
          exact small1000 (by omega)
        · rw [upd_same, rep_snoc, List.map_append]
          rfl
      rintro H18 ⟨s18, e18⟩
      refine ⟨(by show 1 ≤ sizeLine; omega), fun g5 hg5 => ⟨_, rfl, O3, _, rfl, .inl (.inl (.inl (same_new hg5 _ _ (s18 _ _ hO3e)))), g5, _, _, rfl, rfl, upd_same, by omega, by omega, ?_, fun p2 hp2 => ?_⟩⟩
      · rw [hthl]
        show 1 * 10 ≤ sizeLine
        omega
      have e19 : (upd (upd H18 g5 (.lst [.bl false])) p2 (.lst (List.replicate (things.length : Int).toNat [V.bl false]).flatten)) p2 = some (.lst ((List.replicate things.length false).map V.bl)) := by
        rw [upd_same, hthl]
        rfl
      have s1819 : Same H18 (upd (upd H18 g5 (.lst [.bl false])) p2 (.lst (List.replicate (things.length : Int).toNat [V.bl false]).flatten)) := (same_new hg5).trans (same_new hp2)
      generalize upd (upd H18 g5 (.lst [.bl false])) p2 (.lst (List.replicate (things.length : Int).toNat [V.bl false]).flatten) = H19 at e19 s1819 ⊢
      refine ⟨List.replicate things.length false, List.replicate things.length false, hd_bools (.inl (.inl (s1819 _ _ e18))), hd_bools (.inl (.inl e19)), true, by simp, iteT ?_⟩
      have s019 := (s017.trans s18).trans s1819
      refine ⟨_, rfl, fun d5 hd5 => ⟨_, rfl, q, 1, rfl, rfl, d5, q, q - 1, U, [], zer, rfl, hqn.1, upd_same, Tb.nil, zer_rg hq0, SP.uo, by omega, by omega, fun H20 b s20 _ SB => ?_⟩⟩
      have s020 := (s019.trans (same_new hd5)).trans s20
      have hp20 := s020 _ _ hp
      refine ⟨_, rfl, p, dx, _, rfl, hp20, p, _, q, dx, D, rfl, hp20, .inl ⟨b, WU U, U, zer, q - 1, L, rfl, SP.at_.same s020, SB, SP.uo.nd, SP.uo.nm0, (fun x hx => List.mem_cons_of_mem _ hx), List.mem_cons_self, by have := SP.uo.ln; omega, by have := SP.uo.ln; show U.length + 1 ≤ 1000; omega, hq0, by omega, fun H21 bb s21 hb => ⟨bb, rfl, ?_⟩⟩⟩
      have ht : bb = true := hb.mpr (by
        rw [noC_red hq0 SP.rr SP.uo.nm0 (zer_rg hq0) rfl ⟨by omega, by omega⟩]
        exact (inS_red hq0 (zer_rg hq0)).mp (inS_zer hq0 _))
      rw [ht]
      exact k _ (s020.trans s21)
end
end K14
/-! M6 -/
set_option Elab.async false
set_option linter.all false
set_option maxRecDepth 100000
set_option maxHeartbeats 4000000
/-! M6: spaces and lists compared; the space of everything. -/
namespace K14
open PySem PySem.Spec PyProof.Rows L2
section
variable {n : Nat} {q : Int} {ns : List Str}
/-- two bases are the same where the lists of what they span are -/
theorem spn_same (hq : Qok q) (hn : ns.length = n) {B C : Bs} {F G : List (List Int)} (RB : Rref q ns B) (RC : Rref q ns C) (SB : Spn n q ns B F) (SC : Spn n q ns C G) : (∀ p, p ∈ B ↔ p ∈ C) ↔ ∀ v, v ∈ F ↔ v ∈ G := by
  obtain ⟨q2, q5, qn⟩ := hq.le
  have hq0 : 0 < q := by omega
  constructor
  · intro h v
    rw [SB.mem, SC.mem, RB.inS_perm hq0 RC.nd (fun p => (h p).symm)]
  · intro h
    refine Rref.same (by omega) RB RC fun f hf hs => ?_
    have hv : Vec n q (rowV ns f 0) := rowV_vec hn hf ⟨Int.le_refl _, hq0⟩
    have h1 := h (rowV ns f 0)
    rw [SB.mem, SC.mem, toF_eq hs] at h1
    exact ⟨fun z => (h1.mp ⟨hv, z⟩).2, fun z => (h1.mpr ⟨hv, z⟩).2⟩
theorem suppG {U : List Str} {fs : List (Str → Int)} {B : Bs} (S : Spans q U fs B) (h : ∀ f ∈ fs, ∀ x, f x ≠ 0 → x ∈ ns) : ∀ p ∈ B, ∀ x, p.2 x ≠ 0 → x ∈ ns :=
  S.into _ sub_supp (fun x h => absurd rfl h) h
theorem unit_rg (hq : 1 < q) (x : Str) : Rg q (unitF x) := fun y => by
  unfold unitF
  split <;> omega
/-- what all unit sums span -/
theorem unit_all (hq : 1 < q) {B : Bs} : ∀ {ns : List Str} {v : List Int}, ns.Nodup → (∀ x ∈ ns, InS q B (unitF x)) → (∀ d ∈ v, 0 ≤ d ∧ d < q) → InS q B (toF ns v)
  | [], v, _, _, _ => by
    have : toF [] v = zer := by unfold toF; rfl
    rw [this]
    exact inS_zer (by omega) B
  | _ :: _, [], _, _, _ => by
    have : ∀ x ns, toF (x :: ns) [] = zer := fun x ns => by unfold toF; rfl
    rw [this]
    exact inS_zer (by omega) B
  | x :: ns, d :: v, nd, hu, hv => by
    obtain ⟨n1, n2⟩ := List.nodup_cons.mp nd
    have h1 := unit_all hq (B := B) (v := v) n2 (fun y hy => hu y (List.mem_cons_of_mem _ hy)) fun z hz => hv z (List.mem_cons_of_mem _ hz)
    have e : toF (x :: ns) (d :: v) = rowSub q (toF ns v) (unitF x) (-d) := funext fun y => by
      show (if y = x then d else toF ns v y) = (toF ns v y - (if y = x then 1 else 0) * (-d)) % q
      by_cases z : y = x
      · subst z
        rw [if_pos rfl, if_pos rfl, toF_out n1]
        have := hv d List.mem_cons_self
        rw [show (0 : Int) - 1 * -d = d by omega]
        exact (emod_id this).symm
      · rw [if_neg z, if_neg z, Int.zero_mul, Int.sub_zero]
        exact (emod_id (h1.1 y)).symm
    rw [e]
    exact inS_sub (by omega) B _ _ _ h1 (hu x List.mem_cons_self)
theorem every_spn (hq : Qok q) {U ms : List Str} (nd : ns.Nodup) (hn : ns.length = n) (hm : ∀ x, x ∈ ns → x ∈ ms) {B : Bs} (S : Spans q U (ms.map unitF) B) : Spn n q ns B (allV q (n + 1)) := by
  obtain ⟨q2, q5, qn⟩ := hq.le
  have hq0 : 0 < q := by omega
  refine ⟨allV_nd, fun v => ?_⟩
  rw [mem_allV hq0]
  exact ⟨fun h => ⟨h, unit_all (by omega) nd (fun x hx => S.all _ (List.mem_map_of_mem (hm x hx))) h.2⟩, fun h => h.1⟩
theorem every_supp {U ms : List Str} (hm : ∀ x, x ∈ ms → x ∈ ns) {B : Bs} (S : Spans q U (ms.map unitF) B) : ∀ p ∈ B, ∀ x, p.2 x ≠ 0 → x ∈ ns :=
  suppG S fun f hf x hx => by
    obtain ⟨y, hy, rfl⟩ := List.mem_map.mp hf
    unfold unitF at hx
    by_cases z : x = y
    · rw [z]
      exact hm y hy
    · rw [if_neg z] at hx
      exact absurd rfl hx
/-- all is spanned where as many are -/
theorem whole_len (hq : Qok q) {B : Bs} {F : List (List Int)} (S : Spn n q ns B F) : (∀ v, v ∈ allV q (n + 1) ↔ v ∈ F) ↔ F.length = (allV q (n + 1)).length := by
  obtain ⟨q2, q5, qn⟩ := hq.le
  have hq0 : 0 < q := by omega
  have h1 : ∀ v ∈ F, v ∈ allV q (n + 1) := fun v hv => (mem_allV hq0).mpr ((S.mem v).mp hv).1
  constructor
  · intro h
    have a := len_sub S.nd h1
    have b := len_sub (allV_nd (q := q) (n := n + 1)) fun v hv => (h v).mp hv
    omega
  · intro h v
    refine ⟨fun hv => Classical.byContradiction fun z => ?_, h1 v⟩
    have := len_sub (l := v :: F) (m := allV q (n + 1)) (List.nodup_cons.mpr ⟨z, S.nd⟩) fun u hu => by
      rcases List.mem_cons.mp hu with e | hu
      · rw [e]
        exact hv
      · exact h1 u hu
    rw [List.length_cons] at this
    omega
end
end K14
/-! D24 -/
set_option Elab.async false
set_option linter.all false
set_option maxRecDepth 100000
set_option maxHeartbeats 4000000
/-! D24: one round of the law. -/
namespace K14
open PySem PySem.Spec PyProof.Rows L2
def scp_rows : Scope := { kind := .function, names := [((".0" : Str), .local), (("_law_turn" : Str), .local), (("tuple" : Str), .globalImplicit), (("range" : Str), .globalImplicit), (("_law_many" : Str), .cell), (("_law_q" : Str), .cell), (("_law_rng_here" : Str), .cell)], isGenerator := false, isCoroutine := false }
section
variable {P : Program} {w : World} {K : PySem.W.Frag} {mg : Str → Option Value} {base : Heap} {CS CP AM : Addr}
theorem ok_Space_eqR (T : Tx K mg CS CP AM) : ∃ f, Meth K CP "__eq__" f ∧ FnR P w K mg base CX0 1 f (spSpaceEq CP) := by
  obtain ⟨f, hF⟩ := T.m_Space_eq
  obtain ⟨fd, F⟩ := hF.d
  refine ⟨f, hF.me, ?_⟩
  have FK : FnOk P w K mg base CX0 1 f fd ps_Space_eq (spSpaceEq CP) := by
    refine fnok_of F sc_Space_eq (fun vs H Q E h => ?_) (fun f cdv A outer s H vs Q E hr h => ?_)
    · obtain ⟨a, b, W, W', q, L, L', rfl, _⟩ := h
      rfl
    · obtain ⟨a, b, W, W', q, L, L', rfl, S, S', k⟩ := h
      obtain ⟨dx, D, ha, hL⟩ := S.ex
      obtain ⟨dy, D', hb, hL'⟩ := S'.ex
      have hu1 := hr.units
      refine ⟨_, (pss_cons (ps_if (pt_not (pt_val (pe_callB call_isi (by rfl) T.n_isinstance bo_isinstance (pa_cons (pv 1) (pa_cons (pe_gref (by rfl) T.c_Space.g) pa_nil))))) (pss_one (ps_ret pe_bl)) pss_nil)
      (pss_one (ps_ret (pe_and (pe_cmpR op_eq (pe_fld (pv 1) rfl) (pe_fld (pv 0) rfl) (nomark _)) (pe_one (pe_cmpR (op_eqLd hu1) (pe_fld (pv 1) rfl) (pe_fld (pv 0) rfl) (nomark _))))))), ?_⟩
      refine ⟨_, rfl, _, _, _, _, true, rfl, .own CP, tyOf_P T hb, T.k_PP, true, rfl, iteF ?_⟩
      refine ⟨_, rfl, b, CP, dy, _, _, rfl, hb, T.c_Space.cl, T.a_Space_own_modulus, spF_m q D', _, rfl, a, CP, dx, _, _, rfl, ha, T.c_Space.cl, T.a_Space_own_modulus, spF_m q D, rfl, true, ?_, iteT ?_⟩
      · rw [decide_eq_true rfl]
      refine ⟨_, rfl, b, CP, dy, _, _, rfl, hb, T.c_Space.cl, T.a_Space_own_rows, spF_r q D', _, rfl, a, CP, dx, _, _, rfl, ha, T.c_Space.cl, T.a_Space_own_rows, spF_r q D, ?_⟩
      refine ⟨D', D, W', W, q, L', L, rfl, rfl, hL', hL, slt_nodup S'.so, slt_nodup S.so, fun v hv => k v ?_⟩
      rw [hv]
      have mem : ∀ {M : Ld} {p : Str × (Str → Int)}, p ∈ bs M ↔ ∃ a, (p.1, a, p.2) ∈ M := fun {M p} => ⟨bs_mem, fun ⟨a, h⟩ => List.mem_map.mpr ⟨_, h, rfl⟩⟩
      constructor
      · intro h p
        rw [mem, mem]
        exact (h p.1 p.2).symm
      · intro h x f
        have := h (x, f)
        rw [mem, mem] at this
        exact this.symm
  have := FK.raw (F.bindsN (ps := ps_Space_eq) (fun _ _ _ _ _ _ us hl => match us, hl with | [_, _], _ => rfl)) .nil
  exact this.imp fun vs H Q E h => by
    rw [List.append_nil]
    exact h
theorem exists_sorted : ∀ l : List Str, l.Nodup → ∃ m : List Str, m.Pairwise slt ∧ (∀ x, x ∈ m ↔ x ∈ l) ∧ m.length ≤ l.length
  | [], _ => ⟨[], .nil, fun _ => Iff.rfl, Nat.le_refl _⟩
  | a :: l, nd => by
    obtain ⟨n1, n2⟩ := List.nodup_cons.mp nd
    obtain ⟨m, so, hm, hl⟩ := exists_sorted l n2
    classical
    have ham : a ∉ m := fun h => n1 ((hm a).mp h)
    have hmem : ∀ x, x ∈ m.filter (fun y => decide (slt y a)) ++ a :: m.filter (fun y => decide (slt a y)) ↔ x ∈ a :: l := fun x => by
      rw [List.mem_append, List.mem_cons, List.mem_filter, List.mem_filter, List.mem_cons, hm]
      constructor
      · rintro (h | h | h)
        · exact .inr h.1
        · exact .inl h
        · exact .inr h.1
      · rintro (h | h)
        · exact .inr (.inl h)
        · rcases slt_tri x a with g | g | g
          · exact .inl ⟨h, decide_eq_true g⟩
          · exact .inr (.inl g)
          · exact .inr (.inr ⟨h, decide_eq_true g⟩)
    have hso : (m.filter (fun y => decide (slt y a)) ++ a :: m.filter (fun y => decide (slt a y))).Pairwise slt := by
      refine List.pairwise_append.mpr ⟨List.Pairwise.filter _ so, List.pairwise_cons.mpr ⟨fun y hy => of_decide_eq_true (List.mem_filter.mp hy).2, List.Pairwise.filter _ so⟩, fun x hx y hy => ?_⟩
      have h1 : slt x a := of_decide_eq_true (List.mem_filter.mp hx).2
      rcases List.mem_cons.mp hy with e | hy
      · rw [e]
        exact h1
      · exact slt_trans h1 (of_decide_eq_true (List.mem_filter.mp hy).2)
    refine ⟨_, hso, hmem, len_sub (slt_nodup hso) fun x hx => (hmem x).mp hx⟩
theorem SpAt.updL {CP : Addr} {H : Hp} {p E : Addr} {W : List Str} {q : Int} {L : Ld} {xs : List V} {o : HO} (S : SpAt CP H p W q L) (h : H E = some (.lst xs)) : SpAt CP (upd H E o) p W q L := by
  obtain ⟨dx, D, g1, g2⟩ := S.ex
  refine ⟨⟨dx, D, ?_, ⟨?_, fun u hu => ?_⟩⟩, S.so⟩
  · rw [upd_ne fun z => by rw [z, h] at g1; cases g1]
    exact g1
  · have g3 := g2.at_
    rw [upd_ne fun z => by rw [z, h] at g3; cases g3]
    exact g3
  · obtain ⟨kvs, e1, e2⟩ := g2.row u hu
    refine ⟨kvs, ?_, e2⟩
    rw [upd_ne fun z => by rw [z, h] at e1; cases e1]
    exact e1
theorem SumAt.keepB {CS : Addr} {H H' : Hp} {a r : Addr} {U : List Str} {q : Int} {f : Str → Int} {c : Int} (S : SumAt CS H a U q f c) (s : SameB r H H') (hr : RngAt H r) : SumAt CS H' a U q f c := by
  obtain ⟨x, y, h, _⟩ := hr
  obtain ⟨dx, d, g1, g2⟩ := S.ex
  exact ⟨⟨dx, d, s _ _ (fun z => by rw [z, h] at g1; cases g1) g1, s _ _ (fun z => by rw [z, h] at g2; cases g2) g2⟩, S.rg, S.sup, S.cr⟩
theorem qn_of {q : Int} {b d : Int} (hq : Qok q) (hb : (q = 2 ∧ b = 5) ∨ (q = 3 ∧ b = 3) ∨ (q = 5 ∧ b = 2)) (h0 : 0 ≤ d) (h1 : d < b) : ∃ n : Nat, 1 + d = (n : Int) ∧ Qn q n := by
  refine ⟨(1 + d).toNat, by omega, hq, by omega, ?_, by omega⟩
  rcases hb with ⟨rfl, rfl⟩ | ⟨rfl, rfl⟩ | ⟨rfl, rfl⟩
  · have h : (1 + d).toNat + 1 ≤ 6 := by omega
    exact Nat.le_trans (Nat.pow_le_pow_right (by decide) h) (by decide)
  · have h : (1 + d).toNat + 1 ≤ 4 := by omega
    exact Nat.le_trans (Nat.pow_le_pow_right (by decide) h) (by decide)
  · have h : (1 + d).toNat + 1 ≤ 3 := by omega
    exact Nat.le_trans (Nat.pow_le_pow_right (by decide) h) (by decide)
/-- dict([(x, 1) for x in ns]) -/
theorem tb_ones {U : List Str} : ∀ {ns : List Str} {kvs : List (Key × V)} {g : Str → Int}, (∀ x ∈ ns, x ∈ U) → Tb U kvs g →
    Tb U (mergeK kvs (ns.map fun x => ((Sum.inr x : Key), V.int 1))) (fun x => if x ∈ ns then 1 else g x)
  | [], kvs, g, _, t => t.eq fun x => by rw [if_neg (fun h => nomatch h)]
  | n :: ns, kvs, g, hs, t => by
    have q := tb_ones (ns := ns) (fun x hx => hs x (List.mem_cons_of_mem _ hx)) (t.put (hs n List.mem_cons_self) 1)
    refine Tb.eq q fun x => ?_
    show (if x ∈ ns then (1 : Int) else if x = n then 1 else g x) = if x ∈ n :: ns then 1 else g x
    by_cases h : x ∈ ns
    · rw [if_pos h, if_pos (List.mem_cons_of_mem _ h)]
    · rw [if_neg h]
      by_cases e : x = n
      · rw [if_pos e, if_pos (by rw [e]; exact List.mem_cons_self)]
      · rw [if_neg e, if_neg fun z => (List.mem_cons.mp z).elim e h]
theorem Sp1.updL {CP : Addr} {H : Hp} {p E : Addr} {U : List Str} {q : Int} {L : Ld} {xs : List V} {o : HO} (S : Sp1 CP H p U q L) (h : H E = some (.lst xs)) : Sp1 CP (upd H E o) p U q L := ⟨S.at_.updL h, S.rr, S.uo, S.qo⟩
theorem SpR.same {K : PySem.W.Frag} {CP : Addr} {H H' : Hp} {p l2 l3 lN : Addr} {U ns : List Str} {n : Nat} {q : Int} {L : Ld} {ss es : Tl} (S : SpR K CP H p l2 l3 lN U ns n q L ss es) (s : Same H H') : SpR K CP H' p l2 l3 lN U ns n q L ss es :=
  ⟨S.sp.same s, S.sup, S.qn, S.len, S.so, S.sub, S.zz, S.v2.same s, S.v3.same s, s _ _ S.nm, S.spn, S.all⟩
abbrev St3 := Addr × (Str → Int) × Int
def spRound : Sp := fun vs H Q _ => ∃ r, vs = [.ref r] ∧ RngAt H r ∧ ∀ H', SameB r H H' → RngAt H' r → Q (.bl true) H'
theorem ok_law_right (T : Tx K mg CS CP AM) (Y : Ty P K mg CS CP) : GN P w K mg base 11 "_law_right" spRound := by
  refine Fd.gn T.f_law_right sc_law_right (fun vs H Q E h => ?_) (fun _ _ _ _ _ _ us hl => match us, hl with | [_], _ => rfl) (fun f cdv A outer s H vs Q E hr h => ?_)
  · obtain ⟨r, rfl, _⟩ := h
    rfl
  · obtain ⟨r, rfl, hR, k⟩ := h
    have hu := hu_of hr
    have hu1 := hr.units
    obtain ⟨pE, gE, fdE, mc, hCR, hCM, hFE⟩ := Y.every
    obtain ⟨fE, hME, hFnE⟩ : ∃ f, Meth K CP "__eq__" f ∧ FnR P w K mg base CX0 1 f (spSpaceEq CP) := ok_Space_eqR T
    refine ⟨_, (pss_cons (ps_set (i := 1) sc_law_right.nd rfl (Or.inr rfl) (pe_g (ok_law_choice T) hr (by rfl) (pa_cons (pv 0) (pa_cons (pe_lst (pa_cons pe_int (pa_cons pe_int (pa_cons pe_int (pa_cons pe_int (pa_cons pe_int pa_nil)))))) pa_nil))))
      (pss_cons (ps_set (i := 2) sc_law_right.nd rfl (Or.inr rfl) (pe_op op_add pe_int (pe_g (ok_law_draw T) hr (by rfl) (pa_cons (pv 0) (pa_cons (pe_dget hu (pe_disp (pps_cons pe_int pe_int (pps_cons pe_int pe_int (pps_cons pe_int pe_int pps_nil))) (by rfl) (by rfl) (fun z => by cases z) (by decide)) (pv 1) (fun _ _ => rfl)) pa_nil)))))
      (pss_cons (ps_set (i := 3) sc_law_right.nd rfl (Or.inr rfl) (pe_callB cr_sortedS (by rfl) T.n_sorted bo_sorted (pa_cons (pe_g (ok_law_names T) hr (by rfl) (pa_cons (pv 0) (pa_cons (pv 2) (pa_cons (pe_lst (pa_cons pe_str pa_nil)) pa_nil)))) pa_nil)))
      (pss_cons (ps_setLc (i := 4) (own := [("_law_turn", 12)]) rfl sc_law_right.nd rfl rfl (sw_true rfl rfl rfl (by decide +kernel)) (pi_range1 (by rfl) T.n_range (pa_cons (pe_g (ok_law_draw T) hr (by rfl) (pa_cons (pv 0) (pa_cons pe_int pa_nil))) pa_nil)) (blkOk_by (N := N_law_right) (sc := defScope st_law_right) (by decide +kernel)) (fun _ _ _ _ _ => (pg_name (i := 12) sc_law_right.nd rfl (Or.inl rfl) (Or.inr rfl))) (fun _ _ _ _ _ => pts_nil) (fun _ _ _ _ _ => (pe_callTy (call_tuple_of' (K := K)) (by rfl) T.n_tuple bo_tuple (pa_cons (pe_lc (own := [("_law_at", 15)]) rfl sc_law_right.nd (pi_range1 (by rfl) T.n_range (pa_cons (pe_op op_add (pv 2) pe_int) pa_nil)) (blkOk_by (N := N_law_right) (sc := scp_rows) (by decide +kernel)) (fun _ _ _ _ _ => (pg_name (i := 15) sc_law_right.nd rfl (Or.inl rfl) (Or.inr rfl))) (fun _ _ _ _ _ => pts_nil) (fun _ _ _ _ _ => (pe_g (ok_law_draw T) hr (by rfl) (pa_cons (pv 0) (pa_cons (pv 1) pa_nil))))) pa_nil))))
      (pss_cons (ps_set (i := 5) sc_law_right.nd rfl (Or.inl rfl) (pe_g (ok_law_other_rows T) hr (by rfl) (pa_cons (pv 0) (pa_cons (pv 4) (pa_cons (pv 2) (pa_cons (pv 1) pa_nil))))))
      (pss_cons (ps_setLc (i := 6) (own := [("_law_row_here", 16)]) rfl sc_law_right.nd rfl rfl (sw_true rfl rfl rfl (by decide +kernel)) (pi_list (pv 4)) (blkOk_by (N := N_law_right) (sc := defScope st_law_right) (by decide +kernel)) (fun _ _ _ _ _ => (pg_name (i := 16) sc_law_right.nd rfl (Or.inl rfl) (Or.inr rfl))) (fun _ _ _ _ _ => pts_nil) (fun _ _ _ _ _ => (pe_g (ok_law_sum T) hr (by rfl) (pa_cons (pv 16) (pa_cons (pv 3) (pa_cons (pv 1) pa_nil))))))
      (pss_cons (ps_par (i := 7) (j := 8) rfl sc_law_right.nd rfl rfl (by decide) rfl rfl (pa_cons (pe_g (ok_Space T Y) hr (by rfl) (pa_cons (pv 1) (pa_cons (pv 6) pa_nil))) (pa_cons (pe_g (ok_Space T Y) hr (by rfl) (pa_cons (pv 1) (pa_cons (pe_callTy call_tuple_of (by rfl) T.n_tuple bo_tuple (pa_cons (pe_lc (own := [("_law_row_here", 16)]) rfl sc_law_right.nd (pi_list (pv 5)) (blkOk_by (N := N_law_right) (sc := defScope st_law_right) (by decide +kernel)) (fun _ _ _ _ _ => (pg_name (i := 16) sc_law_right.nd rfl (Or.inl rfl) (Or.inr rfl))) (fun _ _ _ _ _ => pts_nil) (fun _ _ _ _ _ => (pe_g (ok_law_sum T) hr (by rfl) (pa_cons (pv 16) (pa_cons (pv 3) (pa_cons (pv 1) pa_nil)))))) pa_nil)) pa_nil))) pa_nil)) (by rfl))
      (pss_cons (ps_expr (pe_bm PySem.F.plainAttrs_list PySem.F.slot_list_append PySem.F.type_list_append mt_append (pv 6) (pa_cons (pe_g (ok_Sum2 T) hr (by rfl) (pa_cons (pv 1) (pa_cons (pe_callTy (call_dictP rfl) (by rfl) T.n_dict bo_dict (pa_cons (pe_lc (own := [("_law_name", 17)]) rfl sc_law_right.nd (pi_list (pv 3)) (blkOk_by (N := N_law_right) (sc := defScope st_law_right) (by decide +kernel)) (fun _ _ _ _ _ => (pg_name (i := 17) sc_law_right.nd rfl (Or.inl rfl) (Or.inr rfl))) (fun _ _ _ _ _ => pts_nil) (fun _ _ _ _ _ => (pe_tup (pa_cons (pv 17) (pa_cons pe_int pa_nil))))) pa_nil)) pa_nil))) pa_nil)))
      (pss_cons (ps_par3 (i := 9) (j := 10) (l := 11) rfl sc_law_right.nd rfl rfl rfl (by decide) (by decide) (by decide) rfl rfl rfl (pa_cons (pe_g (ok_law_all T) hr (by rfl) (pa_cons (pv 2) (pa_cons (pv 1) pa_nil))) (pa_cons (pe_g (ok_law_span T) hr (by rfl) (pa_cons (pv 4) (pa_cons (pv 2) (pa_cons (pv 1) pa_nil)))) (pa_cons (pe_g (ok_law_span T) hr (by rfl) (pa_cons (pv 5) (pa_cons (pv 2) (pa_cons (pv 1) pa_nil)))) pa_nil))) (by rfl))
      (pss_cons (ps_for PassesOwn.never rfl (pi_range1 (by rfl) T.n_range (pa_cons pe_int pa_nil)) (pg_name (i := 12) sc_law_right.nd rfl (Or.inl rfl) (Or.inr rfl)) (pss_cons (ps_if (pt_not (pt_val (pe_g (ok_law_space_right T) hr (by rfl) (pa_cons (pv 7) (pa_cons (pv 10) (pa_cons (pv 9) (pa_cons (pv 3) (pa_cons (pv 1) pa_nil)))))))) (pss_one (ps_ret pe_bl)) pss_nil)
      (pss_one (ps_if (pt_not (pt_val (pe_g (ok_law_space_right T) hr (by rfl) (pa_cons (pv 8) (pa_cons (pv 11) (pa_cons (pv 9) (pa_cons (pv 3) (pa_cons (pv 1) pa_nil)))))))) (pss_one (ps_ret pe_bl)) pss_nil))))
      (pss_cons (ps_set (i := 13) sc_law_right.nd rfl (Or.inl rfl) (pe_cmpR (op_eqT (List (PySem.W.Tup Int)) hu1) (pe_callB (cr_sortTu hu1) (by rfl) T.n_sorted bo_sorted (pa_cons (pv 10) pa_nil)) (pe_callB (cr_sortTu hu1) (by rfl) T.n_sorted bo_sorted (pa_cons (pv 11) pa_nil)) (nomark _)))
      (pss_cons (ps_if (PW.pt (pw_or (pt_cmpR op_ne (pe_cmpR (op_eqOwn (ok_Space_eq T) hr) (pv 7) (pv 8) (nomark _)) (pv 13) (nomark _)) (pw_or1 (pt_cmpR op_eq (pe_cmpR (op_neOwn (k := 8) hME hFnE Y.ne (hr.mono (by decide))) (pv 7) (pv 8) (nomark _)) (pv 13) (nomark _))))) (pss_one (ps_ret pe_bl)) pss_nil)
      (pss_cons (ps_set (i := 14) sc_law_right.nd rfl (Or.inl rfl) (ClX.pe_cmeth (pe_gref (by rfl) T.c_Space.g) hCR hCM (ok_everything T Y hFE) (hr.mono (by decide)) pass0 (pa_cons (pv 1) (pa_cons (pe_revL (pv 3)) pa_nil))))
      (pss_one (ps_ret (pe_and (pe_g (ok_law_space_right T) hr (by rfl) (pa_cons (pv 14) (pa_cons (pv 9) (pa_cons (pv 9) (pa_cons (pv 3) (pa_cons (pv 1) pa_nil)))))) (pe_one (pe_cmpR op_eq (pe_cmpR (op_eqOwn (ok_Space_eq T) hr) (pv 14) (pv 7) (nomark _)) (pe_cmpR op_eq (pe_callB call_len_seq (by rfl) T.n_len bo_len (pa_cons (pv 10) pa_nil)) (pe_callB call_len_seq (by rfl) T.n_len bo_len (pa_cons (pv 9) pa_nil)) (nomark _)) (nomark _))))))))))))))))))), ?_⟩
    have hsz : sizeLine ≥ 1000000 := by decide
    refine ⟨_, rfl, (by show 5 ≤ sizeLine; omega), fun l5 hl5 => ?_⟩
    refine ⟨r, l5, _, rfl, hR.keep (same_new hl5), .inl (.inl upd_same), (hR.ne hl5).symm, (by simp), (by show 5 ≤ 1000; decide), fun H1 x hx s1 R1 => ?_⟩
    obtain ⟨q, rfl, hq⟩ : ∃ q, x = .int q ∧ Qok q := by
      simp only [List.mem_cons, List.not_mem_nil, or_false] at hx
      rcases hx with rfl | rfl | rfl | rfl | rfl
      · exact ⟨2, rfl, .inl rfl⟩
      · exact ⟨2, rfl, .inl rfl⟩
      · exact ⟨3, rfl, .inr (.inl rfl)⟩
      · exact ⟨3, rfl, .inr (.inl rfl)⟩
      · exact ⟨5, rfl, .inr (.inr rfl)⟩
    have sB1 : SameB r H H1 := (same_b (same_new hl5)).trans s1
    obtain ⟨b, hb, hget⟩ : ∃ b, ((q = 2 ∧ b = 5) ∨ (q = 3 ∧ b = 3) ∨ (q = 5 ∧ b = 2)) ∧ valV (mergeK [] [((Sum.inl 2 : Key), V.int 5), (Sum.inl 3, V.int 3), (Sum.inl 5, V.int 2)]) (Sum.inl q : Key) = some (.int b) := by
      rcases hq with rfl | rfl | rfl
      · exact ⟨5, .inl ⟨rfl, rfl⟩, rfl⟩
      · exact ⟨3, .inr (.inl ⟨rfl, rfl⟩), rfl⟩
      · exact ⟨2, .inr (.inr ⟨rfl, rfl⟩), rfl⟩
    refine ⟨_, rfl, fun d1 hd1 => ⟨upd_same, [((Sum.inl 2 : Key), V.int 5), (Sum.inl 3, V.int 3), (Sum.inl 5, V.int 2)], rfl, (by show 3 ≤ 15; decide), ?_⟩⟩
    have hb5 : 1 ≤ b ∧ b ≤ 5 := by omega
    have sd : Same H1 (upd (upd H1 d1 (.dK [])) d1 (.dK (mergeK [] [((Sum.inl 2 : Key), V.int 5), (Sum.inl 3, V.int 3), (Sum.inl 5, V.int 2)]))) := same_mut (same_new hd1) hd1
    refine ⟨_, rfl, d1, .int b, rfl, .inl ⟨_, Sum.inl q, .inl upd_same, rfl, hget.symm⟩, ?_⟩
    generalize upd (upd H1 d1 (.dK [])) d1 (.dK (mergeK [] [((Sum.inl 2 : Key), V.int 5), (Sum.inl 3, V.int 3), (Sum.inl 5, V.int 2)])) = H2 at sd ⊢
    refine ⟨r, b, rfl, by omega, by omega, R1.keep sd, fun H3 d d0 dlt s3 R3 => ?_⟩
    have sB3 : SameB r H H3 := (sB1.trans (same_b sd)).trans s3
    obtain ⟨n, hn, hqn⟩ := qn_of hq hb d0 dlt
    refine ⟨1, d, rfl, rfl, ?_⟩
    rw [show (fun i j => V.int (i + j)) (1 : Int) d = V.int (n : Int) from congrArg V.int hn]
    have hn5 : n ≤ 5 := hqn.2.2.2
    refine ⟨_, rfl, _, rfl, (by show 1 ≤ sizeLine; omega), fun lT hlT => ?_⟩
    refine ⟨r, lT, n, rfl, R3.keep (same_new hlT), hn5, R3.ne hlT, upd_same, fun H4 p4 ns0 s4 R4 hp4 ep4 hnl hnd hnz hok => ?_⟩
    have sB4 : SameB r H H4 := (sB3.trans (same_b (same_new hlT))).trans s4
    refine ⟨p4, ns0, rfl, .inl (.inl ep4), by omega, fun ns lN hperm hsrt hlN => ?_⟩
    have hlen : ns.length = n := by rw [hperm.length_eq, hnl]
    have hndn : ns.Nodup := hperm.nodup_iff.mpr hnd
    have hso : ns.Pairwise slt := by
      refine List.pairwise_iff_getElem.mpr fun i j hi hj hij => ?_
      have h1 := List.pairwise_iff_getElem.mp (sorted_pair ns hsrt) i j hi hj hij
      rcases slt_tri ns[i] ns[j] with g | g | g
      · exact g
      · exact absurd ((List.getElem_inj hndn).mp g) (by omega)
      · exact absurd g h1
    obtain ⟨U, hUs, hUm, hUl⟩ := exists_sorted ("zzzz" :: ns) (List.nodup_cons.mpr ⟨fun h => hnz (hperm.mem_iff.mp h), hndn⟩)
    have hU : Uok U := ⟨hUs, fun x hx => by
      rcases List.mem_cons.mp ((hUm x).mp hx) with e | h
      · rw [e]
        exact ⟨122, [122, 122, 122], by decide +kernel, ⟨by decide, by decide⟩, by decide, fun d hd => .inl (by
          simp at hd
          omega)⟩
      · exact hok x (hperm.mem_iff.mp h), by rw [List.length_cons] at hUl; omega⟩
    have hsub : ∀ x ∈ ns, x ∈ U := fun x hx => (hUm x).mpr (List.mem_cons_of_mem _ hx)
    have hzz : ("zzzz" : Str) ∈ U ∧ ("zzzz" : Str) ∉ ns := ⟨(hUm _).mpr List.mem_cons_self, fun h => hnz (hperm.mem_iff.mp h)⟩
    have hNms : Nms U ns := ⟨hndn, hsub, hU⟩
    have R5 := R4.keep (same_new (o := .lst (ns.map V.str)) hlN)
    have sB5 : SameB r H (upd H4 lN (.lst (ns.map V.str))) := sB4.trans (same_b (same_new hlN))
    have eN5 : (upd H4 lN (.lst (ns.map V.str))) lN = some (.lst (ns.map V.str)) := upd_same
    generalize upd H4 lN (.lst (ns.map V.str)) = H5 at R5 sB5 eN5 ⊢
    have hrN : r ≠ lN := R4.ne hlN
    refine ⟨_, rfl, r, 5, rfl, by omega, by omega, R5, fun H6 m m0 m1 s6 R6 => ?_⟩
    obtain ⟨m, rfl⟩ := Int.eq_ofNat_of_zero_le m0
    have eN6 := s6 _ _ hrN.symm eN5
    refine ⟨m, rfl, by omega, by omega, fun LR hLR => ?_⟩
    have hrLR := R6.ne hLR
    refine lcR m (fun i H' => ∃ rs : Tl, SameB r H6 H' ∧ RngAt H' r ∧ VL K H' LR rs ∧ rs.length = i ∧ ∀ t ∈ rs, Vec n q t.2) ⟨[], same_b (same_new hLR), R6.keep (same_new hLR), ⟨upd_same, fun t ht => nomatch ht⟩, rfl, (fun t ht => nomatch ht)⟩ ?_ ?_
    · rintro i H7 hi ⟨rs, s7, R7, V7, l7, v7⟩
      refine ⟨rfl, _, rfl, _, _, rfl, rfl, _, rfl, by omega, by omega, fun E hE => ?_⟩
      have hrE := R7.ne hE
      refine lcR (((n : Int) + 1).toNat) (fun j H' => ∃ ds : List Int, SameB r H7 H' ∧ RngAt H' r ∧ H' E = some (.lst (ds.map V.int)) ∧ ds.length = j ∧ ∀ d ∈ ds, 0 ≤ d ∧ d < q) ⟨[], same_b (same_new hE), R7.keep (same_new hE), upd_same, rfl, (fun t ht => nomatch ht)⟩ ?_ ?_
      · rintro j H8 hj ⟨ds, s8, R8, e8, l8, v8⟩
        have hq5 := hq.le
        refine ⟨rfl, _, rfl, _, rfl, r, q, rfl, by omega, by omega, R8, fun H9 d d0 d1 s9 R9 => ?_⟩
        refine ⟨_, s9 _ _ hrE.symm e8, ?_, ds ++ [d], sameB_mut (s8.trans s9) hE, R9.upd hrE, ?_, ?_, fun x hx => ?_⟩
        · rw [List.length_map]
          exact small1000 (by omega)
        · rw [upd_same, List.map_append]
          rfl
        · rw [List.length_append, l8]
          rfl
        · rcases List.mem_append.mp hx with hx | hx
          · exact v8 x hx
          · rw [List.mem_singleton.mp hx]
            exact ⟨d0, d1⟩
      rintro H8 ⟨ds, s8, R8, e8, l8, v8⟩
      refine ⟨E, _, rfl, .inl ⟨.inl (.inl e8), fun p hp => ?_⟩⟩
      have s78 : SameB r H7 (upd H8 p (.tup (ds.map V.int))) := s8.trans (same_b (same_new hp))
      have V8 := V7.keepB s78 R7 hrLR.symm
      refine ⟨_, V8.at_, ?_, rs ++ [(p, ds)], sameB_mut (s7.trans s78) hLR, (R8.keep (same_new hp)).upd hrLR, V8.snoc (.inl (.inl upd_same)), ?_, fun t ht => ?_⟩
      · rw [List.length_map]
        exact small1000 (by omega)
      · rw [List.length_append, l7]
        rfl
      · rcases List.mem_append.mp ht with ht | ht
        · exact v7 t ht
        · rw [List.mem_singleton.mp ht]
          exact ⟨by show ds.length = n + 1; omega, v8⟩
    rintro H7 ⟨rs, s7, R7, V7, l7, v7⟩
    have eN7 := s7 _ _ hrN.symm eN6
    have sB7 : SameB r H H7 := (sB5.trans s6).trans s7
    refine ⟨_, rfl, _, rfl, _, rfl, _, rfl, r, LR, rs, n, q, rfl, R7, V7, by omega, v7, hrLR.symm, hqn, fun H8 lO os s8 R8 hlO VO lOs vO => ?_⟩
    have eN8 := s8 _ _ hrN.symm eN7
    have V8 := V7.keepB s8 R7 hrLR.symm
    have sB8 : SameB r H H8 := sB7.trans s8
    have hq0 : 0 < q := by have := hq.le; omega
    refine ⟨_, rfl, LR, rfl, ⟨_, V8.sq⟩, fun LH hLH => ?_⟩
    refine lcL rs fRef (fun i H' => ∃ ts : List St3, Same H8 H' ∧ H' LH = some (.lst (ts.map fun t => V.ref t.1)) ∧ ts.map (·.2.1) = (rs.take i).map (fun t => toF ns t.2) ∧ ts.length = i ∧ ∀ t ∈ ts, SumAt CS H' t.1 U q t.2.1 t.2.2) ⟨[], same_new hLH, upd_same, rfl, rfl, (fun t ht => nomatch ht)⟩ (fun i H' z => ?_) ?_ ?_
    · obtain ⟨ts, s9, _⟩ := z
      exact (V8.same s9).sq
    · rintro i t H9 ht ⟨ts, s9, e9, f9, l9, S9⟩
      have htm := List.mem_of_getElem? ht
      have hi : i < rs.length := (List.getElem?_eq_some_iff.mp ht).1
      refine ⟨rfl, _, rfl, _, rfl, _, rfl, t.1, lN, q, ns, U, t.2, rfl, (V8.same s9).el t htm, s9 _ _ eN8, by rw [(v7 t htm).1, hlen], by omega, (v7 t htm).2, hNms, hq, fun H10 a s10 ha S => ?_⟩
      refine ⟨_, s10 _ _ e9, ?_, ts ++ [(a, toF ns t.2, cst t.2)], same_mut (s9.trans s10) hLH, ?_, ?_, ?_, fun u hu => ?_⟩
      · rw [List.length_map]
        exact small1000 (by omega)
      · rw [upd_same, List.map_append]
        rfl
      · rw [List.map_append, f9, take_snoc ht, List.map_append]
        rfl
      · rw [List.length_append, l9]
        rfl
      · rcases List.mem_append.mp hu with hu | hu
        · exact ((S9 u hu).same s10).updL (s10 _ _ e9)
        · rw [List.mem_singleton.mp hu]
          exact S.updL (s10 _ _ e9)
    rintro H9 ⟨ts, s9, e9, f9, l9, S9⟩
    rw [List.take_length] at f9
    refine ⟨_, rfl, _, rfl, LH, q, U, ts, rfl, hq, hU, by omega, .inl e9, S9, fun H10 p1 L1 s10 hp1 SP1 PS1 => ?_⟩
    have s810 : Same H8 H10 := s9.trans s10
    have VO10 := VO.same s810
    refine ⟨_, rfl, _, rfl, lO, rfl, ⟨_, VO10.sq⟩, fun E hE => ?_⟩
    refine lcL os fRef (fun i H' => ∃ us : List St3, Same H10 H' ∧ H' E = some (.lst (us.map fun t => V.ref t.1)) ∧ us.map (·.2.1) = (os.take i).map (fun t => toF ns t.2) ∧ us.length = i ∧ ∀ t ∈ us, SumAt CS H' t.1 U q t.2.1 t.2.2) ⟨[], same_new hE, upd_same, rfl, rfl, (fun t ht => nomatch ht)⟩ (fun i H' z => ?_) ?_ ?_
    · obtain ⟨us, s11, _⟩ := z
      exact (VO10.same s11).sq
    · rintro i t H11 ht ⟨us, s11, e11, f11, l11, S11⟩
      have htm := List.mem_of_getElem? ht
      have hi : i < os.length := (List.getElem?_eq_some_iff.mp ht).1
      refine ⟨rfl, _, rfl, _, rfl, _, rfl, t.1, lN, q, ns, U, t.2, rfl, (VO10.same s11).el t htm, s11 _ _ (s810 _ _ eN8), by rw [(vO t htm).1, hlen], by omega, (vO t htm).2, hNms, hq, fun H12 a s12 ha S => ?_⟩
      refine ⟨_, s12 _ _ e11, ?_, us ++ [(a, toF ns t.2, cst t.2)], same_mut (s11.trans s12) hE, ?_, ?_, ?_, fun u hu => ?_⟩
      · rw [List.length_map]
        exact small1000 (by omega)
      · rw [upd_same, List.map_append]
        rfl
      · rw [List.map_append, f11, take_snoc ht, List.map_append]
        rfl
      · rw [List.length_append, l11]
        rfl
      · rcases List.mem_append.mp hu with hu | hu
        · exact ((S11 u hu).same s12).updL (s12 _ _ e11)
        · rw [List.mem_singleton.mp hu]
          exact S.updL (s12 _ _ e11)
    rintro H11 ⟨us, s11, e11, f11, l11, S11⟩
    rw [List.take_length] at f11
    refine ⟨E, _, rfl, .inl ⟨.inl (.inl e11), fun tu htu => ?_⟩⟩
    have stu := same_new (o := .tup (us.map fun t => V.ref t.1)) htu
    refine ⟨tu, q, U, us, rfl, hq, hU, by omega, .inr upd_same, fun t ht => (S11 t ht).same stu, fun H12 p2 L2 s12 hp2 SP2 PS2 => ?_⟩
    refine ⟨_, _, rfl, ?_⟩
    have s1012 : Same H10 H12 := (s11.trans stu).trans s12
    have e912 := s1012 _ _ (s10 _ _ e9)
    have eN8' := eN8
    have s812 : Same H8 H12 := s810.trans s1012
    have eN12 := s812 _ _ eN8
    refine ⟨_, rfl, .inl ⟨rfl, _, .inl (.inl e912)⟩, _, rfl, _, rfl, lN, rfl, ⟨_, .inl (.inl eN12)⟩, fun E2 hE2 => ?_⟩
    refine lcL ns V.str (fun i H' => ∃ ps : List Addr, Same H12 H' ∧ H' E2 = some (.lst (ps.map V.ref)) ∧ ps.length = i ∧ Paired (fun p (kv : Key × V) => SqT K H' p [kV kv.1, kv.2]) ps ((ns.take i).map fun x => ((Sum.inr x : Key), V.int 1))) ⟨[], same_new hE2, upd_same, rfl, .nil⟩ (fun i H' z => ?_) ?_ ?_
    · obtain ⟨ps, s13, _⟩ := z
      exact .inl (.inl (s13 _ _ eN12))
    · rintro i x H13 hx ⟨ps, s13, e13, l13, p13⟩
      have hi : i < ns.length := (List.getElem?_eq_some_iff.mp hx).1
      refine ⟨rfl, _, rfl, (by show 2 ≤ sizeLine; omega), fun p hp => ⟨_, same_new hp _ _ e13, ?_, ps ++ [p], same_mut (s13.trans (same_new hp)) hE2, ?_, ?_, ?_⟩⟩
      · rw [List.length_map]
        exact small1000 (by omega)
      · rw [upd_same, List.map_append]
        rfl
      · rw [List.length_append, l13]
        rfl
      · rw [take_snoc hx, List.map_append]
        refine paired_snoc (paired_mono p13 fun a kv z => sqt_keep sameB_upd (same_new hp _ _ e13) (same_sqt (same_new hp) z)) (sqt_keep sameB_upd (same_new hp _ _ e13) ?_)
        exact .inl (.inl upd_same)
    rintro H13 ⟨ps, s13, e13, l13, p13⟩
    rw [List.take_length] at p13
    refine ⟨E2, ps, _, rfl, .inl (.inl e13), p13, fun d hd => ?_⟩
    refine ⟨d, q, rfl, d, q, 0, U, _, _, rfl, hq, upd_same, tb_ones hsub (Tb.nil (W := U)), fun y => ?_, hU, by omega, by omega, fun H15 a s15 _ Sa => ?_⟩
    · have := hq.le
      split <;> omega
    have s1215 : Same H12 H15 := (s13.trans (same_new hd)).trans s15
    have e915 := s1215 _ _ e912
    refine ⟨LH, _, _, rfl, rfl, e915, ?_, ?_⟩
    · rw [List.length_map]
      exact small1000 (by omega)
    have s816 : Same H8 (upd H15 LH (.lst (ts.map (fun t => V.ref t.1) ++ [.ref a]))) := same_mut (s812.trans s1215) hLH
    have SQ1 : Sp1 CP (upd H15 LH (.lst (ts.map (fun t => V.ref t.1) ++ [.ref a]))) p1 U q L1 := (SP1.same (s1012.trans s1215)).updL e915
    have SQ2 : Sp1 CP (upd H15 LH (.lst (ts.map (fun t => V.ref t.1) ++ [.ref a]))) p2 U q L2 := (SP2.same s1215).updL e915
    generalize upd H15 LH (.lst (ts.map (fun t => V.ref t.1) ++ [.ref a])) = H16 at s816 SQ1 SQ2 ⊢
    refine ⟨_, rfl, _, rfl, n, q, rfl, hqn, fun H17 lE es s17 _ VE eE => ?_⟩
    have s817 := s816.trans s17
    refine ⟨_, rfl, _, rfl, _, rfl, LR, rs, n, q, rfl, hqn, V8.same s817, by omega, fun t ht => (v7 t ht).1, fun H18 lS ss s18 _ VS eS => ?_⟩
    have s818 := s817.trans s18
    refine ⟨_, rfl, _, rfl, _, rfl, lO, os, n, q, rfl, hqn, VO.same s818, by omega, fun t ht => (vO t ht).1, fun H19 lT us2 s19 _ VT eT => ⟨_, _, _, rfl, ?_⟩⟩
    have s819 := s818.trans s19
    have s1619 : Same H16 H19 := (s17.trans s18).trans s19
    have eN19 := s819 _ _ eN8
    have hall : ∀ v, v ∈ vals es ↔ Vec n q v := fun v => by rw [eE]; exact mem_allV hq0
    have mapF : ∀ r : Tl, (vals r).map (toF ns) = r.map fun t => toF ns t.2 := fun r => by rw [List.map_map]; rfl
    have PQ1 : Spans q U ((vals rs).map (toF ns)) (bs L1) := by rw [mapF, ← f9]; exact PS1
    have PQ2 : Spans q U ((vals os).map (toF ns)) (bs L2) := by rw [mapF, ← f11]; exact PS2
    have hv1 : ∀ r ∈ vals rs, Vec n q r := fun r hr => by
      obtain ⟨t, ht, rfl⟩ := List.mem_map.mp hr
      exact v7 t ht
    have hv2 : ∀ r ∈ vals os, Vec n q r := fun r hr => by
      obtain ⟨t, ht, rfl⟩ := List.mem_map.mp hr
      exact vO t ht
    have SN1 : Spn n q ns (bs L1) (vals ss) := by rw [eS]; exact span_spn hq hndn hlen hv1 PQ1
    have SN2 : Spn n q ns (bs L2) (vals us2) := by rw [eT]; exact span_spn hq hndn hlen hv2 PQ2
    have SR1 : SpR K CP H19 p1 lS lE lN U ns n q L1 ss es := ⟨SQ1.same s1619, PQ1.supp, hqn, hlen, hso, hsub, hzz, VS.same s19, VE.same (s18.trans s19), eN19, SN1, hall⟩
    have SR2 : SpR K CP H19 p2 lT lE lN U ns n q L2 us2 es := ⟨SQ2.same s1619, PQ2.supp, hqn, hlen, hso, hsub, hzz, VT, VE.same (s18.trans s19), eN19, SN2, hall⟩
    have sB19 : SameB r H H19 := sB8.trans (same_b s819)
    have R19 : RngAt H19 r := R8.keep s819
    refine ⟨2, rfl, by omega, by omega, ?_⟩
    refine forR 2 (fun i σ H' => ∃ v12 v13 v14 v15 v16 v17, σ = [some (.ref r), some (.int q), some (.int n), some (.ref lN), some (.ref LR), some (.ref lO), some (.ref LH), some (.ref p1), some (.ref p2), some (.ref lE), some (.ref lS), some (.ref lT), v12, v13, v14, v15, v16, v17] ∧ Same H19 H') ⟨_, _, _, _, _, _, rfl, fun _ _ h => h⟩ ?_ ?_
    · rintro i σ H20 hi ⟨v12, v13, v14, v15, v16, v17, rfl, s20⟩
      refine ⟨_, rfl, _, rfl, _, rfl, _, rfl, _, rfl, p1, lS, lE, lN, U, ns, n, q, L1, ss, es, rfl, SR1.same s20, fun H21 s21 => ⟨true, rfl, iteF ?_⟩⟩
      refine ⟨_, rfl, _, rfl, _, rfl, _, rfl, _, rfl, p2, lT, lE, lN, U, ns, n, q, L2, us2, es, rfl, SR2.same (s20.trans s21), fun H22 s22 => ⟨true, rfl, iteF ?_⟩⟩
      exact ⟨_, _, _, _, _, _, rfl, (s20.trans s21).trans s22⟩
    rintro σ H20 ⟨v12, v13, v14, v15, v16, v17, rfl, s20⟩
    have RA := SR1.same s20
    have RB := SR2.same s20
    have hne : ∀ {rs : Tl}, (∀ v ∈ vals rs, Vec n q v) → ∀ b ∈ rs, b.2 ≠ [] := fun h b hb e => by
      have := (h _ (List.mem_map_of_mem hb)).1
      rw [e] at this
      cases this
    refine ⟨_, rfl, lS, ss, rfl, RA.v2.sq, fun b hb => ⟨hne (fun v hv => ((SN1.mem v).mp hv).1) b hb, RA.v2.el b hb⟩, fun d1 hd1 => ?_⟩
    have s21 := same_new (o := .lst ((sortT ss).map fun b => V.ref b.1)) hd1
    have e21 : (upd H20 d1 (.lst ((sortT ss).map fun b => V.ref b.1))) d1 = some (.lst ((sortT ss).map fRef)) := upd_same
    generalize upd H20 d1 (.lst ((sortT ss).map fun b => V.ref b.1)) = H21 at s21 e21 ⊢
    have RB1 := RB.same s21
    refine ⟨_, rfl, lT, us2, rfl, RB1.v2.sq, fun b hb => ⟨hne (fun v hv => ((SN2.mem v).mp hv).1) b hb, RB1.v2.el b hb⟩, fun d2 hd2 => ?_⟩
    have s22 := same_new (o := .lst ((sortT us2).map fun b => V.ref b.1)) hd2
    have e22 : (upd H21 d2 (.lst ((sortT us2).map fun b => V.ref b.1))) d2 = some (.lst ((sortT us2).map fRef)) := upd_same
    generalize upd H21 d2 (.lst ((sortT us2).map fun b => V.ref b.1)) = H22 at s22 e22 ⊢
    have RA2 := RA.same (s21.trans s22)
    have RB2 := RB1.same s22
    have HA : HD K H22 (.ref d1) ((sortT ss).map fun t => PySem.W.Tup.mk t.2) := hd_list fRef (fun t => PySem.W.Tup.mk t.2) (.inl (.inl (s22 _ _ e21))) fun t ht => hd_tup (RA2.v2.el t ((sortT_perm ss).mem_iff.mp ht))
    have HB : HD K H22 (.ref d2) ((sortT us2).map fun t => PySem.W.Tup.mk t.2) := hd_list fRef (fun t => PySem.W.Tup.mk t.2) (.inl (.inl e22)) fun t ht => hd_tup (RB2.v2.el t ((sortT_perm us2).mem_iff.mp ht))
    refine ⟨_, _, HA, HB, ?_⟩
    obtain ⟨same, hsame⟩ : ∃ b : Bool, decide ((sortT ss).map (fun t => PySem.W.Tup.mk t.2) = (sortT us2).map fun t => PySem.W.Tup.mk t.2) = b := ⟨_, rfl⟩
    rw [hsame]
    have hsame2 : same = true ↔ ∀ p, p ∈ bs L1 ↔ p ∈ bs L2 := by
      rw [spn_same hq hlen (SQ1.rr.onNs PQ1.supp) (SQ2.rr.onNs PQ2.supp) SN1 SN2, ← sortT_same SN1.nd SN2.nd, ← hsame, decide_eq_true_iff]
      have inj : ∀ {a b : List (List Int)}, a.map PySem.W.Tup.mk = b.map PySem.W.Tup.mk ↔ a = b := fun {a b} => ⟨fun h => (List.map_inj_right fun x y e => by injection e).mp h, fun h => by rw [h]⟩
      rw [← inj, List.map_map, List.map_map]
      rfl
    obtain ⟨dx1, D1, h1, _⟩ := RA2.sp.at_.ex
    obtain ⟨dx2, D2, h2, _⟩ := RB2.sp.at_.ex
    refine ⟨_, rfl, _, rfl, p1, dx1, _, p2, dx2, _, rfl, rfl, h1, h2, p1, p2, WU U, WU U, q, L1, L2, rfl, RA2.sp.at_, RB2.sp.at_, fun v hv => ⟨v, rfl, _, rfl, rfl, false, ?_, iteF ?_⟩⟩
    · have e : v = same := Bool.eq_iff_iff.mpr (hv.trans hsame2.symm)
      rw [e, decide_eq_true rfl]
      rfl
    refine ⟨_, rfl, _, rfl, p1, dx1, _, p2, dx2, _, rfl, rfl, h1, h2, p1, p2, WU U, WU U, q, L1, L2, rfl, RA2.sp.at_, RB2.sp.at_, fun v2 hv2 => ⟨v2, rfl, _, rfl, rfl, false, ?_, iteF ?_⟩⟩
    · have e : v2 = same := Bool.eq_iff_iff.mpr (hv2.trans hsame2.symm)
      rw [e]
      cases same <;> rfl
    refine ⟨rfl, _, rfl, _, rfl, lN, ns.map V.str, rfl, .inl (.inl RA2.nm), fun d3 hd3 => ?_⟩
    have s23 := same_new (o := .lst (ns.map V.str).reverse) hd3
    refine ⟨d3, q, U, ns.reverse, rfl, hq, hU, by rw [upd_same, List.map_reverse], by rw [List.length_reverse]; omega, fun x hx => hsub x (List.mem_reverse.mp hx), fun H24 pW LW s24 _ SW PW => ?_⟩
    have RA4 := RA2.same (s23.trans s24)
    have supW := every_supp (ns := ns) (fun x hx => List.mem_reverse.mp hx) PW
    have SNW : Spn n q ns (bs LW) (vals es) := by rw [eE]; exact every_spn hq hndn hlen (fun x hx => List.mem_reverse.mpr hx) PW
    refine ⟨_, rfl, _, rfl, _, rfl, _, rfl, _, rfl, pW, lE, lE, lN, U, ns, n, q, LW, es, es, rfl, ⟨SW, supW, hqn, hlen, hso, hsub, hzz, RA4.v3, RA4.v3, RA4.nm, SNW, hall⟩, fun H25 s25 => ⟨true, rfl, iteT ?_⟩⟩
    have RA5 := RA4.same s25
    have SW5 := SW.same s25
    obtain ⟨dx5, D5, h5, _⟩ := RA5.sp.at_.ex
    obtain ⟨dx6, D6, h6, _⟩ := SW5.at_.ex
    refine ⟨_, rfl, _, rfl, pW, dx6, _, p1, dx5, _, rfl, rfl, h6, h5, pW, p1, WU U, WU U, q, LW, L1, rfl, SW5.at_, RA5.sp.at_, fun v3 hv3 => ⟨v3, rfl, _, rfl, lS, _, rfl, .inl RA5.v2.sq, _, rfl, lE, _, rfl, .inl RA5.v3.sq, rfl, rfl, ?_⟩⟩
    have hfin : v3 = true ↔ (vals ss).length = (vals es).length := by
      rw [hv3, spn_same hq hlen (SW.rr.onNs supW) (SQ1.rr.onNs PQ1.supp) SNW SN1, eE]
      exact whole_len hq SN1
    rw [vals_len, vals_len] at hfin
    have e : V.bl v3 = V.bl (decide (V.int ((ss.map fRef).length : Int) = V.int ((es.map fRef).length : Int))) := congrArg V.bl (Bool.eq_iff_iff.mpr (by
      rw [hfin, decide_eq_true_iff, List.length_map, List.length_map]
      exact ⟨fun z => by rw [z], fun z => by injection z with z; omega⟩))
    have s1925 : Same H19 H25 := ((((s20.trans s21).trans s22).trans s23).trans s24).trans s25
    show Q (.bl (decide (V.bl v3 = V.bl (decide (V.int ((ss.map fRef).length : Int) = V.int ((es.map fRef).length : Int)))))) H25
    rw [decide_eq_true e]
    exact k _ (sB19.trans (same_b s1925)) (R19.keep s1925)
end
end K14
/-! D25 -/
set_option Elab.async false
set_option linter.all false
set_option maxRecDepth 100000
set_option maxHeartbeats 4000000
/-! D25: the law. -/
namespace K14
open PySem PySem.Spec PyProof.Rows L2
section
variable {P : Program} {w : World} {K : PySem.W.Frag} {mg : Str → Option Value} {base : Heap} {CS CP AM : Addr}
def spLaw (K : PySem.W.Frag) : Sp := fun vs H Q _ => ∃ (a : Addr) (ns : List Int), vs = [.ref a] ∧ SqL K H a (ns.map V.int) ∧ ∀ H', Q (.bl true) H'
theorem sql_fresh {r a : Addr} {H H' : Hp} {xs : List V} (e : Same H H') (hr : H r = none) {H2 : Hp} (s : SameB r H' H2) (h : SqL K H a xs) : SqL K H2 a xs := by
  rcases h with (h | ⟨o, h⟩) | h
  · exact .inl (.inl (s _ _ (ne_of_none h hr) (e _ _ h)))
  · exact .inl (.inr ⟨o, s _ _ (ne_of_none h hr) (e _ _ h)⟩)
  · exact .inr h
theorem turns (n : Int) (h : 0 ≤ n) : ∃ m : Nat, m ≤ 3 ∧ (if (if n < 3 then n else 3) > 1 then (if n < 3 then n else 3) else 1) = (m : Int) := by
  refine ⟨(if (if n < 3 then n else 3) > 1 then (if n < 3 then n else 3) else 1).toNat, ?_, ?_⟩
  · split <;> split <;> omega
  · split <;> split <;> omega
theorem ok_law (T : Tx K mg CS CP AM) (Y : Ty P K mg CS CP) {f : Addr} {fd : FuncData} (F : FunD K "law" "law" (defArgs st_law) (defBody st_law) (defScope st_law) [] [] f fd) : FnOk P w K mg base CX0 12 f fd ps_law (spLaw K) := by
  refine fnok_of F sc_law (fun vs H Q E h => ?_) (fun f cdv A outer s H vs Q E hr h => ?_)
  · obtain ⟨a, ns, rfl, _⟩ := h
    rfl
  · obtain ⟨a, ns, rfl, hS, k⟩ := h
    refine ⟨_, (pss_cons (ps_for PassesOwn.never rfl (pi_range1 (by rfl) T.n_range (pa_cons (pe_callB (call_max2 rfl) (by rfl) T.n_max bo_max (pa_cons pe_int (pa_cons (pe_callB (call_min2 rfl) (by rfl) T.n_min bo_min (pa_cons pe_int (pa_cons (pe_callB call_len_seq (by rfl) T.n_len bo_len (pa_cons (pv 0) pa_nil)) pa_nil))) pa_nil))) pa_nil)) (pg_name (i := 1) sc_law.nd rfl (Or.inl rfl) (Or.inr rfl)) (pss_cons (ps_set (i := 2) sc_law.nd rfl (Or.inl rfl) (pe_g (ok_law_rng T) hr (by rfl) (pa_cons (pv 0) (pa_cons (pv 1) pa_nil))))
      (pss_one (ps_for PassesOwn.never rfl (pi_range1 (by rfl) T.n_range (pa_cons pe_int pa_nil)) (pg_name (i := 3) sc_law.nd rfl (Or.inl rfl) (Or.inr rfl)) (pss_one (ps_if (pt_not (pt_val (pe_g (ok_law_right T Y) hr (by rfl) (pa_cons (pv 2) pa_nil)))) (pss_one (ps_ret pe_bl)) pss_nil))))))
      (pss_one (ps_ret pe_bl))), ?_⟩
    refine ⟨_, rfl, a, _, rfl, .inl hS, _, _, rfl, _, _, rfl, ?_⟩
    obtain ⟨m, hm, em⟩ := turns ((ns.map V.int).length : Int) (by omega)
    refine ⟨m, congrArg V.int em ▸ rfl, by omega, by omega, ?_⟩
    refine forR m (fun i σ H' => ∃ v1 v2 v3, σ = [some (.ref a), v1, v2, v3] ∧ SqL K H' a (ns.map V.int)) ⟨none, none, none, rfl, hS⟩ ?_ ?_
    · rintro i σ H2 hi ⟨v1, v2, v3, rfl, S2⟩
      refine ⟨_, rfl, _, rfl, a, ns, _, rfl, S2, by omega, by omega, fun H3 r s3 hr3 R3 => ?_⟩
      refine ⟨3, rfl, by omega, by omega, ?_⟩
      refine forR 3 (fun j σ H' => ∃ v3, σ = [some (.ref a), some (.int (0 + (i : Int))), some (.ref r), v3] ∧ SameB r H3 H' ∧ RngAt H' r) ⟨v3, rfl, same_b (fun _ _ h => h), R3⟩ ?_ ?_
      · rintro j σ H4 hj ⟨w3, rfl, s4, R4⟩
        refine ⟨_, rfl, r, rfl, R4, fun H5 s5 R5 => ⟨true, rfl, iteF ?_⟩⟩
        exact ⟨_, rfl, s4.trans s5, R5⟩
      rintro σ H4 ⟨w3, rfl, s4, R4⟩
      exact ⟨_, _, _, rfl, sql_fresh s3 hr3 s4 S2⟩
    rintro σ H2 ⟨v1, v2, v3, rfl, S2⟩
    exact k _
end
end K14
/-! HK2 -/
set_option Elab.async false
set_option linter.all false
set_option maxRecDepth 100000
set_option maxHeartbeats 4000000
/-! HK2: Tx, Ty from what the head's Hook has seen. -/
namespace K14
open PySem PySem.Spec PyProof.Rows L2 He HK
theorem recB_ok {K : PySem.W.Frag} {p : Addr} {t : String} (h : recB K p t = true) : ∃ rest, PySem.W.recIn K p t = some (.ref (recA K p t) :: rest) := by
  unfold recB at h
  unfold recA
  split at h
  · rename_i g rest e
    rw [e]
    exact ⟨rest, rfl⟩
  · cases h
theorem prop_ok {K : PySem.W.Frag} {x m : Str} (h : bProp x m K = true) : PropOf K (ga K x) m (ma K (ga K x) m) (recA K (ma K (ga K x) m) "property") := by
  obtain ⟨h1, h⟩ := ba (show (_ && _) = true from h)
  obtain ⟨h2, h⟩ := ba h
  obtain ⟨h3, h4⟩ := ba h
  exact ⟨eqO_ok h1, eqO_ok h2, of_decide_eq_true h3, recB_ok h4⟩
theorem cme_ok {K : PySem.W.Frag} {x m : Str} (h : cmeB x m K = true) : ClX.CRead K (ga K x) (.type "type") ∧ ClX.CMet K (ga K x) (.type "type") m (ma K (ga K x) m) (recA K (ma K (ga K x) m) "classmethod") := by
  obtain ⟨h1, h⟩ := ba (show (_ && _) = true from h)
  obtain ⟨h2, h⟩ := ba h
  obtain ⟨h3, h⟩ := ba h
  obtain ⟨h4, h5⟩ := ba h
  refine ⟨⟨h1, eqO_ok h2⟩, ⟨?_, recB_ok h4, h5⟩⟩
  split at h3
  · rename_i a b c d e
    obtain ⟨e1, h3⟩ := ba h3
    obtain ⟨e2, h3⟩ := ba h3
    obtain ⟨e3, e4⟩ := ba h3
    rw [e, of_decide_eq_true e1, of_decide_eq_true e2, of_decide_eq_true e3, of_decide_eq_true e4]
  · cases h3
theorem sup_ok {K : PySem.W.Frag} {P : Program} {x m : Str} (h : supB P.main.file x m K = true) {d : DefE} (hd : d.at_ K = ma K (ga K x) m) (hc : d.clo = [("__class__" : Str)]) (hdf : d.dfl = []) (e : fnE K (d.at_ K) = d.val) (c : d.ok K = true) (top : (P.main.scope.names.lookup ("super" : Str)).isSome = false) :
    ∃ fd, SupD P K (ga K x) m d.name d.qual d.params d.body d.scope (ma K (ga K x) m) (supA K x m) (celA K (ma K (ga K x) m)) (codA K (ma K (ga K x) m)) fd := by
  obtain ⟨oc, od, cl, dV, kV, doc, pm, an, cdv, ct, osl, lk, hcd, hdv, hcl⟩ := DefE.look e c
  rw [hc] at hcl
  obtain ⟨cc, rfl⟩ : ∃ cc : Addr, cl = [(("__class__" : Str), cc)] := by
    match cl, hcl with
    | [(y, cc)], hcl =>
      have : y = ("__class__" : Str) := (List.cons.inj hcl).1
      exact ⟨cc, by rw [this]⟩
  have hdv0 : dV = .none := by
    unfold DefE.dvs at hdv
    rw [hdf] at hdv
    rcases hdv with ⟨_, h⟩ | ⟨h, _⟩
    · exact h
    · exact absurd rfl h
  subst hdv0
  obtain ⟨cda, rfl⟩ := codeIn_ref hcd
  rw [hd] at lk
  have eC : celA K (ma K (ga K x) m) = cc := by
    unfold celA
    rw [lk]
  have eD : codA K (ma K (ga K x) m) = cda := by
    unfold codA
    rw [lk]
  obtain ⟨h1, h⟩ := ba (show (_ && _) = true from h)
  obtain ⟨h2, h⟩ := ba h
  obtain ⟨h3, h⟩ := ba h
  obtain ⟨h4, h⟩ := ba h
  obtain ⟨h5, h⟩ := ba h
  obtain ⟨h6, h7⟩ := ba h
  rw [eD] at h1
  rw [eC] at h2
  rw [eC, eD]
  refine ⟨_, ⟨⟨oc, od, kV, doc, pm, an, ct, osl, rfl, lk⟩, hcd, ?_, ?_, ?_, of_decide_eq_true h4, of_decide_eq_true h5, h6, eqO_ok h7, top⟩⟩
  · split at h1
    · rename_i o1 o2 vs o3 e1
      split at h1
      · rename_i fl tf e2
        exact ⟨_, _, vs, _, fl, tf, e1, e2, h1⟩
      · cases h1
    · cases h1
  · split at h2
    · rename_i o1 o2 a o3 e1
      rw [of_decide_eq_true h2] at e1
      exact ⟨_, _, _, e1⟩
    · cases h2
  · split at h3
    · rename_i cd e1
      exact ⟨cd, e1, eqO_ok h3⟩
    · cases h3
section
variable {P : Program} {K : PySem.W.Frag} {mg : Str → Option Value} {h : Heap}
theorem hd_tx (X : K.In h) (G : h.Ns mainGlobals mg) (c : SaysE hFb hFn K) : Tx K mg (ga K "Sum") (ga K "Space") (ga K "MODULI") where
  n_len := free_ok X G (show Fa.ok K (.free "len") = true from c.fact 0 rfl)
  n_isinstance := free_ok X G (show Fa.ok K (.free "isinstance") = true from c.fact 1 rfl)
  n_all := free_ok X G (show Fa.ok K (.free "all") = true from c.fact 2 rfl)
  n_any := free_ok X G (show Fa.ok K (.free "any") = true from c.fact 3 rfl)
  n_sorted := free_ok X G (show Fa.ok K (.free "sorted") = true from c.fact 4 rfl)
  n_min := free_ok X G (show Fa.ok K (.free "min") = true from c.fact 5 rfl)
  n_max := free_ok X G (show Fa.ok K (.free "max") = true from c.fact 6 rfl)
  n_abs := free_ok X G (show Fa.ok K (.free "abs") = true from c.fact 7 rfl)
  n_divmod := free_ok X G (show Fa.ok K (.free "divmod") = true from c.fact 8 rfl)
  n_list := free_ok X G (show Fa.ok K (.free "list") = true from c.fact 9 rfl)
  n_tuple := free_ok X G (show Fa.ok K (.free "tuple") = true from c.fact 10 rfl)
  n_dict := free_ok X G (show Fa.ok K (.free "dict") = true from c.fact 11 rfl)
  n_set := free_ok X G (show Fa.ok K (.free "set") = true from c.fact 12 rfl)
  n_int := free_ok X G (show Fa.ok K (.free "int") = true from c.fact 13 rfl)
  n_str := free_ok X G (show Fa.ok K (.free "str") = true from c.fact 14 rfl)
  n_bool := free_ok X G (show Fa.ok K (.free "bool") = true from c.fact 15 rfl)
  n_range := free_ok X G (show Fa.ok K (.free "range") = true from c.fact 16 rfl)
  n_enumerate := free_ok X G (show Fa.ok K (.free "enumerate") = true from c.fact 17 rfl)
  n_zip := free_ok X G (show Fa.ok K (.free "zip") = true from c.fact 18 rfl)
  g_MODULI := glo_ok X G (show Fa.ok K (.glo "MODULI") = true from c.fact 20 rfl)
  t_MODULI := fun H => tupB_ok (x := "MODULI") (vs := dvModuli) (c.fact 21 rfl) H
  g_LETTERS := str_ok X G (show Fa.ok K (.str "LETTERS" "abcdefghijklmnopqrstuvwxyz") = true from c.fact 22 rfl)
  g_NAME_SIGNS := str_ok X G (show Fa.ok K (.str "NAME_SIGNS" "abcdefghijklmnopqrstuvwxyz0123456789") = true from c.fact 23 rfl)
  g_CONSTANT := str_ok X G (show Fa.ok K (.str "CONSTANT" "") = true from c.fact 24 rfl)
  g_LONGEST_NAME := int_ok X G (show Fa.ok K (.int "LONGEST_NAME" 12) = true from c.fact 25 rfl)
  f_is_integer := ⟨let ⟨fd, F⟩ := c.def_ 0 rfl rfl; ⟨_, fd, F, glo_ok X G (show Fa.ok K (.glo "is_integer") = true from c.fact 26 rfl)⟩⟩
  f_is_number := ⟨let ⟨fd, F⟩ := c.def_ 1 rfl rfl; ⟨_, fd, F, glo_ok X G (show Fa.ok K (.glo "is_number") = true from c.fact 27 rfl)⟩⟩
  f_is_name := ⟨let ⟨fd, F⟩ := c.def_ 2 rfl rfl; ⟨_, fd, F, glo_ok X G (show Fa.ok K (.glo "is_name") = true from c.fact 28 rfl)⟩⟩
  f_is_list := ⟨let ⟨fd, F⟩ := c.def_ 3 rfl rfl; ⟨_, fd, F, glo_ok X G (show Fa.ok K (.glo "is_list") = true from c.fact 29 rfl)⟩⟩
  f_is_world := ⟨let ⟨fd, F⟩ := c.def_ 4 rfl rfl; ⟨_, fd, F, glo_ok X G (show Fa.ok K (.glo "is_world") = true from c.fact 30 rfl)⟩⟩
  f_is_sum := ⟨let ⟨fd, F⟩ := c.def_ 5 rfl rfl; ⟨_, fd, F, glo_ok X G (show Fa.ok K (.glo "is_sum") = true from c.fact 31 rfl)⟩⟩
  f_want_modulus := ⟨let ⟨fd, F⟩ := c.def_ 6 rfl rfl; ⟨_, fd, F, glo_ok X G (show Fa.ok K (.glo "want_modulus") = true from c.fact 32 rfl)⟩⟩
  f_want_sum := ⟨let ⟨fd, F⟩ := c.def_ 7 rfl rfl; ⟨_, fd, F, glo_ok X G (show Fa.ok K (.glo "want_sum") = true from c.fact 33 rfl)⟩⟩
  f_inverse := ⟨let ⟨fd, F⟩ := c.def_ 8 rfl rfl; ⟨_, fd, F, glo_ok X G (show Fa.ok K (.glo "inverse") = true from c.fact 34 rfl)⟩⟩
  f_want_sums := ⟨let ⟨fd, F⟩ := c.def_ 9 rfl rfl; ⟨_, fd, F, glo_ok X G (show Fa.ok K (.glo "want_sums") = true from c.fact 35 rfl)⟩⟩
  f_want_name_list := ⟨let ⟨fd, F⟩ := c.def_ 10 rfl rfl; ⟨_, fd, F, glo_ok X G (show Fa.ok K (.glo "want_name_list") = true from c.fact 36 rfl)⟩⟩
  f_row_of := ⟨let ⟨fd, F⟩ := c.def_ 11 rfl rfl; ⟨_, fd, F, glo_ok X G (show Fa.ok K (.glo "row_of") = true from c.fact 37 rfl)⟩⟩
  f_sum_of := ⟨let ⟨fd, F⟩ := c.def_ 12 rfl rfl; ⟨_, fd, F, glo_ok X G (show Fa.ok K (.glo "sum_of") = true from c.fact 38 rfl)⟩⟩
  f_without_constant := ⟨let ⟨fd, F⟩ := c.def_ 13 rfl rfl; ⟨_, fd, F, glo_ok X G (show Fa.ok K (.glo "without_constant") = true from c.fact 39 rfl)⟩⟩
  f_row_less := ⟨let ⟨fd, F⟩ := c.def_ 14 rfl rfl; ⟨_, fd, F, glo_ok X G (show Fa.ok K (.glo "row_less") = true from c.fact 40 rfl)⟩⟩
  f_row_reduced := ⟨let ⟨fd, F⟩ := c.def_ 15 rfl rfl; ⟨_, fd, F, glo_ok X G (show Fa.ok K (.glo "row_reduced") = true from c.fact 41 rfl)⟩⟩
  f_reduced_rows := ⟨let ⟨fd, F⟩ := c.def_ 16 rfl rfl; ⟨_, fd, F, glo_ok X G (show Fa.ok K (.glo "reduced_rows") = true from c.fact 42 rfl)⟩⟩
  f_law_rng := ⟨let ⟨fd, F⟩ := c.def_ 17 rfl rfl; ⟨_, fd, F, glo_ok X G (show Fa.ok K (.glo "_law_rng") = true from c.fact 43 rfl)⟩⟩
  f_law_draw := ⟨let ⟨fd, F⟩ := c.def_ 18 rfl rfl; ⟨_, fd, F, glo_ok X G (show Fa.ok K (.glo "_law_draw") = true from c.fact 44 rfl)⟩⟩
  f_law_choice := ⟨let ⟨fd, F⟩ := c.def_ 19 rfl rfl; ⟨_, fd, F, glo_ok X G (show Fa.ok K (.glo "_law_choice") = true from c.fact 45 rfl)⟩⟩
  f_law_names := ⟨let ⟨fd, F⟩ := c.def_ 20 rfl rfl; ⟨_, fd, F, glo_ok X G (show Fa.ok K (.glo "_law_names") = true from c.fact 46 rfl)⟩⟩
  f_law_all := ⟨let ⟨fd, F⟩ := c.def_ 21 rfl rfl; ⟨_, fd, F, glo_ok X G (show Fa.ok K (.glo "_law_all") = true from c.fact 47 rfl)⟩⟩
  f_law_longer := ⟨let ⟨fd, F⟩ := c.def_ 22 rfl rfl; ⟨_, fd, F, glo_ok X G (show Fa.ok K (.glo "_law_longer") = true from c.fact 48 rfl)⟩⟩
  f_law_plus := ⟨let ⟨fd, F⟩ := c.def_ 23 rfl rfl; ⟨_, fd, F, glo_ok X G (show Fa.ok K (.glo "_law_plus") = true from c.fact 49 rfl)⟩⟩
  f_law_span := ⟨let ⟨fd, F⟩ := c.def_ 24 rfl rfl; ⟨_, fd, F, glo_ok X G (show Fa.ok K (.glo "_law_span") = true from c.fact 50 rfl)⟩⟩
  f_law_sum := ⟨let ⟨fd, F⟩ := c.def_ 25 rfl rfl; ⟨_, fd, F, glo_ok X G (show Fa.ok K (.glo "_law_sum") = true from c.fact 51 rfl)⟩⟩
  f_law_row := ⟨let ⟨fd, F⟩ := c.def_ 26 rfl rfl; ⟨_, fd, F, glo_ok X G (show Fa.ok K (.glo "_law_row") = true from c.fact 52 rfl)⟩⟩
  f_law_lead := ⟨let ⟨fd, F⟩ := c.def_ 27 rfl rfl; ⟨_, fd, F, glo_ok X G (show Fa.ok K (.glo "_law_lead") = true from c.fact 53 rfl)⟩⟩
  f_law_power := ⟨let ⟨fd, F⟩ := c.def_ 28 rfl rfl; ⟨_, fd, F, glo_ok X G (show Fa.ok K (.glo "_law_power") = true from c.fact 54 rfl)⟩⟩
  f_law_is_basis := ⟨let ⟨fd, F⟩ := c.def_ 29 rfl rfl; ⟨_, fd, F, glo_ok X G (show Fa.ok K (.glo "_law_is_basis") = true from c.fact 55 rfl)⟩⟩
  f_law_space_right := ⟨let ⟨fd, F⟩ := c.def_ 30 rfl rfl; ⟨_, fd, F, glo_ok X G (show Fa.ok K (.glo "_law_space_right") = true from c.fact 56 rfl)⟩⟩
  f_law_named := ⟨let ⟨fd, F⟩ := c.def_ 31 rfl rfl; ⟨_, fd, F, glo_ok X G (show Fa.ok K (.glo "_law_named") = true from c.fact 57 rfl)⟩⟩
  f_law_other_rows := ⟨let ⟨fd, F⟩ := c.def_ 32 rfl rfl; ⟨_, fd, F, glo_ok X G (show Fa.ok K (.glo "_law_other_rows") = true from c.fact 58 rfl)⟩⟩
  f_law_right := ⟨let ⟨fd, F⟩ := c.def_ 33 rfl rfl; ⟨_, fd, F, glo_ok X G (show Fa.ok K (.glo "_law_right") = true from c.fact 59 rfl)⟩⟩
  f_law := ⟨let ⟨fd, F⟩ := c.def_ 34 rfl rfl; ⟨_, fd, F, glo_ok X G (show Fa.ok K (.glo "law") = true from c.fact 60 rfl)⟩⟩
  c_Sum := ⟨glo_ok X G (show Fa.ok K (.glo "Sum") = true from c.fact 61 rfl), cls_ok (show Fa.ok K (.cls "Sum") = true from c.fact 62 rfl), keep_ok (show Fa.ok K (.keep "Sum") = true from c.fact 63 rfl), eqO_ok (c.fact 64 rfl), of_decide_eq_true (c.fact 65 rfl)⟩
  c_Space := ⟨glo_ok X G (show Fa.ok K (.glo "Space") = true from c.fact 66 rfl), cls_ok (show Fa.ok K (.cls "Space") = true from c.fact 67 rfl), keep_ok (show Fa.ok K (.keep "Space") = true from c.fact 68 rfl), eqO_ok (c.fact 69 rfl), of_decide_eq_true (c.fact 70 rfl)⟩
  a_Sum_own_modulus := noat_ok (show Fa.ok K (.noat "Sum" "own_modulus") = true from c.fact 71 rfl)
  a_Sum_own_weights := noat_ok (show Fa.ok K (.noat "Sum" "own_weights") = true from c.fact 72 rfl)
  a_Sum_own_constant := noat_ok (show Fa.ok K (.noat "Sum" "own_constant") = true from c.fact 73 rfl)
  a_Space_own_modulus := noat_ok (show Fa.ok K (.noat "Space" "own_modulus") = true from c.fact 74 rfl)
  a_Space_own_rows := noat_ok (show Fa.ok K (.noat "Space" "own_rows") = true from c.fact 75 rfl)
  k_SS := of_decide_eq_true (c.fact 76 rfl)
  k_PS := of_decide_eq_true (c.fact 77 rfl)
  k_PP := of_decide_eq_true (c.fact 78 rfl)
  gt := of_decide_eq_true (c.fact 81 rfl)
  k_TS := fun n hn => of_decide_eq_true (List.all_eq_true.mp (c.fact 79 rfl) n hn)
  gg := eqO_ok (c.fact 80 rfl)
  p_Sum_modulus := ⟨_, _, c.def_ 35 rfl rfl, prop_ok (c.fact 82 rfl)⟩
  p_Sum_constant := ⟨_, _, c.def_ 36 rfl rfl, prop_ok (c.fact 83 rfl)⟩
  m_Sum_names := ⟨_, c.def_ 37 rfl rfl, meth_ok (show Fa.ok K (.meth "Sum" "names") = true from c.fact 84 rfl)⟩
  m_Sum_weight := ⟨_, c.def_ 38 rfl rfl, meth_ok (show Fa.ok K (.meth "Sum" "weight") = true from c.fact 85 rfl)⟩
  m_Sum_eq := ⟨_, c.def_ 39 rfl rfl, meth_ok (show Fa.ok K (.meth "Sum" "__eq__") = true from c.fact 86 rfl)⟩
  m_Spanned_rows := ⟨_, c.def_ 40 rfl rfl, meth_ok (show Fa.ok K (.meth "Space" "rows") = true from c.fact 87 rfl)⟩
  m_Spanned_sums_of := ⟨_, c.def_ 41 rfl rfl, meth_ok (show Fa.ok K (.meth "Space" "sums_of") = true from c.fact 88 rfl)⟩
  m_Spanned_names_in_rows := ⟨_, c.def_ 42 rfl rfl, meth_ok (show Fa.ok K (.meth "Space" "names_in_rows") = true from c.fact 89 rfl)⟩
  m_Spanned_row_left := ⟨_, c.def_ 43 rfl rfl, meth_ok (show Fa.ok K (.meth "Space" "row_left") = true from c.fact 90 rfl)⟩
  p_Space_modulus := ⟨_, _, c.def_ 44 rfl rfl, prop_ok (c.fact 91 rfl)⟩
  p_Space_dimension := ⟨_, _, c.def_ 45 rfl rfl, prop_ok (c.fact 92 rfl)⟩
  m_Space_basis := ⟨_, c.def_ 46 rfl rfl, meth_ok (show Fa.ok K (.meth "Space" "basis") = true from c.fact 93 rfl)⟩
  m_Space_names := ⟨_, c.def_ 47 rfl rfl, meth_ok (show Fa.ok K (.meth "Space" "names") = true from c.fact 94 rfl)⟩
  m_Space_reduced := ⟨_, c.def_ 48 rfl rfl, meth_ok (show Fa.ok K (.meth "Space" "reduced") = true from c.fact 95 rfl)⟩
  m_Space_contains := ⟨_, c.def_ 49 rfl rfl, meth_ok (show Fa.ok K (.meth "Space" "__contains__") = true from c.fact 96 rfl)⟩
  m_Space_eq := ⟨_, c.def_ 50 rfl rfl, meth_ok (show Fa.ok K (.meth "Space" "__eq__") = true from c.fact 97 rfl)⟩
  i_Sum := ⟨_, (c.def_ 51 rfl rfl).choose, (c.def_ 51 rfl rfl).choose_spec, mkr_ok (show Fa.ok K (.mkr "Sum") = true from c.fact 98 rfl)⟩
theorem hd_ty (X : K.In h) (G : h.Ns mainGlobals mg) (c : SaysE hFb hFn K) (hf : P.main.file = hdFile) (top : (P.main.scope.names.lookup ("super" : Str)).isSome = false) : Ty P K mg (ga K "Sum") (ga K "Space") where
  n_super := free_ok X G (show Fa.ok K (.free "super") = true from c.fact 19 rfl)
  sup := by
    obtain ⟨e, k⟩ := c.at_ 52 rfl
    obtain ⟨fd, D⟩ := sup_ok (P := P) (x := "Space") (m := "__init__") (by rw [hf]; exact c.fact 100 rfl) rfl rfl rfl e k top
    obtain ⟨fd2, F2⟩ := c.def_ 53 rfl rfl
    exact ⟨_, _, _, _, fd, fd2, D, F2, mkr_ok (show Fa.ok K (.mkr "Space") = true from c.fact 99 rfl)⟩
  every := by
    obtain ⟨h1, h2⟩ := cme_ok (x := "Space") (m := "everything") (c.fact 101 rfl)
    obtain ⟨fd, F⟩ := c.def_ 54 rfl rfl
    exact ⟨_, _, fd, _, h1, h2, F⟩
  ne := ⟨eqO_ok (c.fact 102 rfl), of_decide_eq_true (c.fact 70 rfl)⟩
end
end K14
/-! E1 -/
set_option Elab.async false
set_option linter.all false
set_option maxRecDepth 100000
set_option maxHeartbeats 0
open PySem PySem.W PySem.Calls PyProof.Rows
theorem PySem.Challenge.cw_quietsums_k14_whole_spaces_against_all_s_holds : PySem.Challenge.rw_quietsums_k14_whole_spaces_against_all_s.Holds := by
  w_on; o_law
  refine HandSHeadRun.head_any (r := OpenLaw.row PySem.Challenge.rw_quietsums_k14_whole_spaces_against_all_s) (q := view (OpenLaw.row PySem.Challenge.rw_quietsums_k14_whole_spaces_against_all_s).prog [62]) (H := K14.hdK) (ob := K14.hdOb) (M := 20000) (loose := K14.hdLoose) (d := HandSHeadRun.topDef (OpenLaw.row PySem.Challenge.rw_quietsums_k14_whole_spaces_against_all_s).prog 62) (kwd := []) K14.hdOb_eq
    (by kernel_rfl) (fun s => by kernel_rfl) K14.hd_run (by kernel_rfl) (by kernel_rfl) (by kernel_rfl) (by rfl) (by first | assumption | decide +kernel) (by decide +kernel) ⟨rfl, rfl, rfl, rfl, rfl, by decide +kernel⟩ ?hw ?hc
  case hw => w_witness2
  case hc =>
    refine L2.walk_ofE (l := PySem.Challenge.rw_quietsums_k14_whole_spaces_against_all_s) (n := 63) (k := 12) (x := "_law_script") (CX := L2.CX0) rfl (by decide) (by kernel_rfl) ⟨rfl, by decide, by decide⟩ ?F (fun _ _ _ _ z => z)
    intro w mg fa h Y G hmg0
    obtain ⟨K, KX, c⟩ := Y
    have hmg : mg ("law" : PySem.Str) = some (.ref fa) := by
      have e : (HandSHeadRun.topDef (OpenLaw.row PySem.Challenge.rw_quietsums_k14_whole_spaces_against_all_s).prog 62).name = ("law" : PySem.Str) := by kernel_rfl
      rw [← e]
      exact hmg0
    have T := K14.hd_tx KX G c
    have Ty := K14.hd_ty (P := (PySem.Challenge.rw_quietsums_k14_whole_spaces_against_all_s).prog) KX G c rfl (by decide +kernel)
    obtain ⟨f, fd, F, hm⟩ := T.f_law.d
    have e := hmg.symm.trans hm
    obtain rfl : fa = f := Value.ref.inj (Option.some.inj e)
    have b := L2.FunD.bindsA (ps := ["_law_script"]) F fun _ _ _ _ _ _ us hl => match us, hl with | [_], _ => rfl
    exact ⟨K, fd, K14.spLaw K, KX, fun s u => b s [u] rfl, fun H a ns hl _ hS => ⟨a, ns, rfl, hS, fun _ => rfl⟩, fun base _ _ => K14.ok_law T Ty F⟩
