import PyProof.Rows.All
import Wide.All
import OpenK.AllK
import Wide.FinOn
import KE.KStateDown
import HandS.ForMost
import HandS.Exc
import HandS.Defaults
import HandS.HeadHook1
import HandS.HeadHook2
import HandS.HeadHook3
import HandS.HeadHook4
import KE.KExcSuper
import HandS.ExcInit
import HandS.ExcSuper
import HandS.TryOnly
import HandS.Lambda
import HandS.CallRecv
import HandS.HeadWalk
import HandS.ExcField
import KE.KDictZip
import KE.KDictItemsList
import HandS.Zip0
import HandS.Zip
import HandS.ListItems
import HandS.IsInst
import HandS.Walk
import HandS.Head0
import HandS.Head1
import HandS.Head2
import HandS.HeadEnd
import HandS.Star
import HandS.StrMore
import HandS.WordsExc
import PySem.Challenge.RW_lorehouse_k21_words_of_texts_with_their
set_option Elab.async false
set_option linter.all false
set_option maxRecDepth 100000
set_option maxHeartbeats 0
namespace He
open PySem PySem.Spec PyProof.Rows L2
/-- one def with a closure, seen by its cells' names -/
abbrev FnC : Type := Option (Str × Str × Arguments × FuncBody × Scope × Addr × List Str × Addr)
def fnC (K : PySem.W.Frag) (p : Str × Option Str) : FnC := match K.lookup (fAd K p) with
  | some ⟨_, _, .func fd, _⟩ => some (fd.name, fd.qualname, fd.params, fd.body, fd.scope, fd.globals, fd.closure.map (·.1), fd.builtins)
  | _ => none
def DefD.valC (d : DefD) (cl : List Str) : FnC := some (d.name, d.qual, d.params, .stmts d.body, d.scope, mainGlobals, cl, builtinsNs)
abbrev Clo : Type := DefD × List Str
abbrev AlZ : Type := AlX × List FnC
def obsZ (n : Nat) (fa : List Fa) (fn : List DefD) (ts : List Tab) (tf : List Defn) (cs : List Clo) (ex : PySem.W.Frag → Bool) (g : Addr → Option Obj) : AlZ :=
  ((obsT fa fn ts (frT g (cStatics :: asD g n)), ex (frT g (cStatics :: asD g n)) && tabsB g tf (frT g (cStatics :: asD g n))), cs.map fun c => fnC (frT g (cStatics :: asD g n)) c.1.at_)
def valZ (fn : List DefD) (ts : List Tab) (cs : List Clo) (w : World) : AlZ := (valX fn ts w, cs.map fun c => c.1.valC c.2)
structure SaysZ (fa : List Fa) (fn : List DefD) (ts : List Tab) (tf : List Defn) (cs : List Clo) (ex : PySem.W.Frag → Bool) (w : World) (h : Heap) (K : PySem.W.Frag) : Prop where
  x : SaysX fa fn ts tf ex w h K
  c : cs.map (fun c => fnC K c.1.at_) = cs.map fun c => c.1.valC c.2
theorem saysZ_of {n : Nat} {fa : List Fa} {fn : List DefD} {ts : List Tab} {tf : List Defn} {cs : List Clo} {ex : PySem.W.Frag → Bool} {w : World} {h : Heap} (e : obsZ n fa fn ts tf cs ex h.get? = valZ fn ts cs w) :
    SaysZ fa fn ts tf cs ex w h (frT h.get? (cStatics :: asD h.get? n)) := by
  have e0 := congrArg (fun z : AlZ => z.1) e
  have e1 : obsT fa fn ts (frT h.get? (cStatics :: asD h.get? n)) = valT fn ts w := congrArg (fun z : AlX => z.1) e0
  have e2 : (ex (frT h.get? (cStatics :: asD h.get? n)) && tabsB h.get? tf (frT h.get? (cStatics :: asD h.get? n))) = true := congrArg (fun z : AlX => z.2) e0
  obtain ⟨h1, h2⟩ := ba e2
  have key : ∀ p ∈ tf, PySem.W.codeHdIn (frT h.get? (cStatics :: asD h.get? n)) (cT (frT h.get? (cStatics :: asD h.get? n)) p).1 (cT (frT h.get? (cStatics :: asD h.get? n)) p).2 = true ∧ ∃ o, h.get? (cT (frT h.get? (cStatics :: asD h.get? n)) p).2 = some o ∧ emptyTab o = true := fun p hp => by
    obtain ⟨h3, h4⟩ := ba (List.all_eq_true.mp h2 p hp)
    refine ⟨h3, ?_⟩
    cases q : h.get? (cT (frT h.get? (cStatics :: asD h.get? n)) p).2 with
    | none =>
      rw [q] at h4
      cases h4
    | some o =>
      rw [q] at h4
      exact ⟨o, rfl, h4⟩
  exact ⟨⟨e1, h1, fun p hp => (key p hp).1, fun p hp => by
    obtain ⟨_, o, q, z⟩ := key p hp
    exact frT_none q z, fun p hp => by
    obtain ⟨_, o, q, z⟩ := key p hp
    rw [q, emptyTab_eq z]⟩, congrArg (fun z : AlZ => z.2) e⟩
def hookZ (n : Nat) (fa : List Fa) (fn : List DefD) (ts : List Tab) (tf : List Defn) (cs : List Clo) (ex : PySem.W.Frag → Bool) : PySem.W.Hook where
  α := AlZ
  obs := fun s => obsZ n fa fn ts tf cs ex s.heap.get?
  val := fun w => valZ fn ts cs w
  says := fun w h => ∃ K : PySem.W.Frag, K.In h ∧ SaysZ fa fn ts tf cs ex w h K
  of := fun _ _ e => ⟨_, frT_in, saysZ_of e⟩
  keeps := fun _ _ _ ⟨K, hK, c⟩ k => ⟨K, PySem.W.Frag.In.keeps hK k, ⟨⟨c.x.t, c.x.more, c.x.hd, c.x.out, fun p hp => k _ _ (c.x.empty p hp)⟩, c.c⟩⟩
theorem obsZ_eq {n : Nat} {fa : List Fa} {fn : List DefD} {ts : List Tab} {tf : List Defn} {cs : List Clo} {ex : PySem.W.Frag → Bool} {g : Addr → Option Obj} {s : Shared} (h : ∀ a, g a = s.heap.get? a) : obsZ n fa fn ts tf cs ex g = (hookZ n fa fn ts tf cs ex).obs s := by
  have e : g = s.heap.get? := funext h
  rw [e] <;> rfl
theorem SaysZ.clo {fa : List Fa} {fn : List DefD} {ts : List Tab} {tf : List Defn} {cs : List Clo} {ex : PySem.W.Frag → Bool} {w : World} {h : Heap} {K : PySem.W.Frag} (c : SaysZ fa fn ts tf cs ex w h K) (i : Nat) {d : Clo} (hd : cs[i]? = some d := by rfl) :
    fnC K d.1.at_ = d.1.valC d.2 := by
  have e2 : (cs.map fun c => fnC K c.1.at_)[i]? = (cs.map fun c => c.1.valC c.2)[i]? := by rw [c.c]
  rw [List.getElem?_map, List.getElem?_map, hd] at e2
  exact Option.some.inj e2
end He
namespace LoreX
open PySem PySem.Spec PyProof.Rows L2
/-- what the written part says of the class, its __init__, its cell -/
structure SupC (P : Program) (K : PySem.W.Frag) (f cda cc C : Addr) (ar : Arg) : Prop where
  ox : OexC K C
  fn : ∃ oc od fd osl, K.lookup f = some ⟨oc, od, .func fd, osl⟩ ∧ (fd.params.posonlyargs ++ fd.params.args).head? = some ar
  code : ∃ ccl cdd vs ccs file tf, K.lookup cda = some ⟨ccl, cdd, .fields vs, ccs⟩ ∧ vs[2]? = some (.str file tf) ∧ ((P.main.file : Str) == file) = true
  cell : ∃ cl cld csl, K.lookup cc = some ⟨cl, cld, .cell (some (.ref C)), csl⟩
  sub : PySem.W.mroIn K C (.ref C) = some true
  nosuper : PySem.W.nsIn K mainGlobals "super" = some none
  top : (P.main.scope.names.lookup ("super" : Str)).isSome = false
  init : PySem.W.ks_superIn K C C "__init__" = some (some (.builtin "ValueError.__init__"))
  ve : PySem.W.subIn K (.ref C) (.type "ValueError") = some true
  opq : PySem.W.nsIn K cStatics "thirdparty.any" = some none
section
open PySem.W PySem.Calls
variable {prog : Program} {w : World} {A : Around} {E : Value → Shared → Prop} {h : Heap} {g : Array GenState} {d : Drawn} {t : Nat} {os : OsState}
/-- ValueError.__init__ bound to e, called -/
theorem call_bwV {C u e t0 : Addr} {rest : List Value} {Q : Value → Shared → Prop} {nm q : Str} {N : Addr} {bs bm : List Value} {sn : List Str} {sub : List Value} {ab : Bool} {col : Option Bool} {dd : Option Addr} {k0 k1 k2 k3 k5 : Option Value}
    (hC : h.get? C = some (excClassObj nm q C N bs bm true sn sub ab col dd k0 k1 k2 k3 k5 "ValueError.__new__")) (he : h.get? e = some (PySem.HandSPX.excO C t0)) (hu : h.get? u = some (kxs_mw "ValueError.__init__" e)) (hrest : rest.length ≤ sizeLine)
    (hq : ∀ h' t1, (∀ b o, b ≠ e → h.get? b = some o → h'.get? b = some o) → h'.get? e = some (PySem.HandSPX.excO C t1) → Q .none ⟨h', g, d, t, os⟩) :
    wpAny (model prog w) A (call (.ref u) rest) Q E ⟨h, g, d, t, os⟩ := by
  refine wpAny_call (codeAny_of_tree ?_)
  show wpAny _ A.in1 (callAny (.ref u) ⟨rest, []⟩) _ _ _
  simp only [callAny]
  refine wpAny_bind (wpAny_load hu ?_)
  simp only [kxs_mw, show (Value.type "method-wrapper" == Value.type "method" || Value.type "method-wrapper" == Value.type "builtin_function_or_method" || Value.type "method-wrapper" == Value.type "method-wrapper") = true by decide, if_true]
  refine PySem.W.KFB.if_so (by decide) ?_
  refine wpAny_bind (PySem.ESX.check_bound F.excBase_ValueError hC he rfl ?_)
  refine wpAny_bind (wpAny_pure (wpAny_pure ?_))
  refine ⟨Code.quiet_builtin _ (by decide +kernel), codeAny_builtin F.excBase_ValueError.initEntry ?_⟩
  rw [Around.under_plainId F.excBase_ValueError.init.plain _]
  wp_walk
  refine hq _ h.objs.size (fun b o hb ho => ?_) ?_
  · rw [Heap.get?_update_other _ _ (Ne.symm hb)]
    exact Heap.get?_push_of_some _ ho
  · rw [Heap.get?_update_self _ (Heap.get?_push_of_some _ he) rfl]
    rfl
end

section
open PySem.W PySem.Calls
variable {X : Cx} {pins : List (Addr × Obj)} {σ : L2.St} {H : Hp} {s : Shared} {q : Str} {scope : Scope} {L f cda cc C a : Addr} {ar : Arg} {i : Nat} {body : List Stmt} {p0 p1 : Pos} {whole : Sem Value} {E : Value → Shared → Prop}
theorem super_obj {Q : Value → Shared → Prop} (S : SupC X.prog X.K f cda cc C ar) (I : Inv X pins σ H s) (he : X.env = ksEnv q scope L f (.ref cda) cc)
    (hks : scope.names.lookup ("super" : Str) = some .globalImplicit) (hkc : scope.names.lookup ("__class__" : Str) = some .free) (hka : scope.names.lookup ar.arg = some .local) (hk : scope.kind = .function)
    (hN : X.N[i]? = some ar.arg) (hσ : σ[i]? = some (some (.ref a))) (ha : H a = some (exo a C none))
    (h : ∀ so s', Inv X pins σ H s' → s'.heap.get? so = some (ks_superObj C a C) → Q (.ref so) s') :
    _root_.PySem.wpAt (model X.prog X.w) X.A (.func body X.env) (attributeBase (.Call (.Name "super" p0) [] [] p1) "__init__" X.env whole) Q E s := by
  have KX : X.K.In s.heap := I.kIn
  obtain ⟨oc, od, fd, osl, lf, hp⟩ := S.fn
  obtain ⟨ccl, cdd, vs, ccs, file, tf, lc, hvs, hfile⟩ := S.code
  obtain ⟨cl, cld, csl, lcell⟩ := S.cell
  obtain ⟨nm, qq, N, bs, bm, sn, sub, ab, col, dd, k0, k1, k2, k3, k5, hC, hbm⟩ := S.ox.cls
  obtain ⟨t1, ho⟩ := exo_at I.hok ha
  obtain ⟨mb, hb1, hb2⟩ := I.mod.blt
  have hself : ∃ m, s.heap.Ns L m ∧ m ar.arg = some (.ref a) := by
    obtain ⟨m, hn, hl⟩ := I.loc
    have hvis : Vis X.env.scope ar.arg := by
      rw [he]
      exact .inl hka
    obtain ⟨u, r, l⟩ := hl i ar.arg _ hN hσ hvis
    obtain rfl : u = Value.ref a := r
    have eL : X.env.locals = L := by rw [he]
    rw [eL] at hn
    refine ⟨m, hn, ?_⟩
    rcases l with ⟨_, z⟩ | ⟨z, _⟩
    · exact z
    · have e3 : X.env.kindOf ar.arg = some .local := by
        rw [he]
        exact hka
      rw [e3] at z
      rcases z with z | z <;> cases z
  obtain ⟨m, hns, hm⟩ := hself
  rw [he]
  have glob : s.heap.Ns mainGlobals X.mg := I.mod.glob.keeps I.bk
  have blt : s.heap.Ns builtinsNs mb := hb1.keeps I.bk
  obtain ⟨hh, g, d, t, os⟩ := s
  refine ks_wpAt_super_base (env := ksEnv q scope L f (.ref cda) cc) hks hkc (by decide) rfl (KX _ _ lf) rfl hp rfl (KX _ _ lc) rfl hvs hfile S.top ?_
  refine ks_loadName_global hk hks (loadGlobal_builtin (env := ksEnv q scope L f (.ref cda) cc) glob (mg_none_of KX glob S.nosuper) blt ((hb2 _ (by decide +kernel)).trans (by decide +kernel)) ⟨rfl, ?_⟩)
  refine wpAny_loadName_free hk hkc rfl ⟨_, KX _ _ lcell, rfl⟩ ?_
  refine wpAny_loadName_local hk hka hns hm ?_
  refine ks_wpAny_isType_cls (KX _ _ hC) rfl ⟨rfl, ?_⟩
  refine ks_wpAny_call_super (KX _ _ hC) rfl ho rfl (fun c e => by cases e) (looks_mroIn KX S.sub) (fun h' e k => ?_)
  exact h _ _ (I.kept (t' := t) k) e
theorem super_meth {so : Addr} {pl : Sem Bool} {Q : Value × List Value → Shared → Prop} (S : SupC X.prog X.K f cda cc C ar) (I : Inv X pins σ H s) (ha : H a = some (exo a C none)) (hso : s.heap.get? so = some (ks_superObj C a C))
    (h : ∀ u s', Inv X pins σ H s' → s'.heap.get? u = some (kxs_mw "ValueError.__init__" a) → s.heap.objs.size ≤ u → u < s'.heap.objs.size → Q (.ref u, []) s') : wpAny (model X.prog X.w) X.A (getMethod (.ref so) "__init__" pl) Q E s := by
  have KX : X.K.In s.heap := I.kIn
  obtain ⟨nm, qq, N, bs, bm, sn, sub, ab, col, dd, k0, k1, k2, k3, k5, hC, hbm⟩ := S.ox.cls
  obtain ⟨t1, ho⟩ := exo_at I.hok ha
  have hcl : PySem.W.clsIn X.K C = some { name := nm, bases := bs, mro := .ref C :: bm, ns := N, qualname := qq, hasDict := true, slotNames := sn, subclasses := sub, abstract := ab, collection := col, hasDel := false } := by unfold PySem.W.clsIn; rw [hC] <;> rfl
  have hm := S.init
  unfold ks_superIn at hm
  rw [hcl] at hm
  have IA : InstAt s.heap a { cls := .ref C, dict := none, data := .fields #[.ref t1, .none, .none, .none, .bool false, .none] } C none := ⟨ho, rfl, rfl, trivial⟩
  have hI : Looks (model X.prog X.w) s.heap (isInstance (.ref a) (.type "ValueError")) true := IA.type.andThen (looks_subIn KX S.ve)
  obtain ⟨hh, g, d, t, os⟩ := s
  refine kxs_getMethod kxs_ValueError hso (looks_opaque KX S.opq) (l₀ := .ref C :: bm) (fun A Q E s k q => wpAny_bind ((looks_clsIn KX hcl) A _ E s k (wpAny_pure q))) rfl KX hm hI (ks_ne KX IA hcl) (by decide) ?_
  exact h _ _ (I.kept (t' := t + 1) fun b o e => Heap.get?_push_of_some _ e) (Heap.get?_push_at rfl rfl) (Nat.le_refl _) (by
    have e : (hh.push (kxs_mw "ValueError.__init__" a)).get? hh.objs.size = some (kxs_mw "ValueError.__init__" a) := Heap.get?_push_at rfl rfl
    exact Heap.lt_size e)
end

abbrev envK (qual : Str) (scope : Scope) (L f : Addr) (cda cc : Addr) : Env := PySem.W.ksEnv qual scope L f (.ref cda) cc
def cxK (CX : CXT) (P : Program) (w : World) (K : PySem.W.Frag) (mg : Str → Option Value) (base : Heap) (N : List Str) (qual : Str) (scope : Scope) (f cda cc : Addr) (A : Around) (outer : List Env) (s : Shared) (H : Hp) (E : XK) : Cx where
  prog := P
  w := w
  K := K
  mg := mg
  base := base
  A := A.deeper (envK qual scope s.heap.objs.size f cda cc)
  N := N
  s_0 := s
  H_0 := H
  env := envK qual scope s.heap.objs.size f cda cc
  outer := outer
  stack := envK qual scope s.heap.objs.size f cda cc :: outer
  ex := []
  calm := true
  fn := fun _ => false
  pn := []
  xe := fun e s' => wpAny (model P w) (A.deeper (envK qual scope s.heap.objs.size f cda cc)) (leaving (envK qual scope s.heap.objs.size f cda cc) e) (fun _ s'' => CX outer H s E e s'') (fun e' s'' => CX outer H s E e' s'') s'

/-- names: the parameters alone -/
structure ScK (N : List Str) (sc : Scope) : Prop where
  kind : sc.kind = .function
  co : sc.isCoroutine = false
  gen : sc.isGenerator = false
  nd : N.Nodup
  par : ∀ x ∈ N, sc.names.lookup x = some .local
  nocell : ∀ y ∈ sc.names, y.2 ≠ .cell
  free : ∀ y ∈ sc.names, y.2 = .free → y.1 = "__class__"
  ksup : sc.names.lookup ("super" : Str) = some .globalImplicit
  kcls : sc.names.lookup ("__class__" : Str) = some .free
theorem zip_lookup {N : List Str} : ∀ {us : List Value} {i : Nat} {x : Str} {u : Value}, N.Nodup → N[i]? = some x → us[i]? = some u → (N.zip us).reverse.lookup x = some u := by
  intro us i x u nd hx hu
  have key : ∀ {l : List (Str × Value)}, (l.map (·.1)).Nodup → (x, u) ∈ l → l.lookup x = some u := by
    intro l
    induction l with
    | nil => intro _ h; cases h
    | cons p r ih =>
      intro nd h
      obtain ⟨a, b⟩ := p
      rw [List.map_cons, List.nodup_cons] at nd
      rcases List.mem_cons.mp h with e | e
      · cases e
        simp [List.lookup]
      · have ne : x ≠ a := fun z => nd.1 (by rw [← z]; exact List.mem_map.mpr ⟨_, e, rfl⟩)
        have e2 : (x == a) = false := by simpa using ne
        simp only [List.lookup, e2]
        exact ih nd.2 e
  have hm : (x, u) ∈ N.zip us := by
    refine List.mem_of_getElem? (i := i) ?_
    rw [List.getElem?_zip_eq_some]
    exact ⟨hx, hu⟩
  refine key ?_ (List.mem_reverse.mpr hm)
  rw [List.map_reverse]
  have sub : ∀ (N : List Str) (us : List Value), List.Sublist ((N.zip us).map (·.1)) N := by
    intro N
    induction N with
    | nil => intro us; simp
    | cons a r ih =>
      intro us
      cases us with
      | nil => simp
      | cons b q => simpa using ih q
  have nz : ((N.zip us).map (·.1)).Nodup := nd.sublist (sub N us)
  unfold List.Nodup at nz ⊢
  rw [List.pairwise_reverse]
  exact nz.imp fun h => Ne.symm h
theorem start_K {CX : CXT} {P : Program} {w : World} {K : PySem.W.Frag} {mg : Str → Option Value} {base : Heap} {N : List Str} {qual : Str} {scope : Scope} {f cda cc C : Addr} {A : Around} {outer : List Env} {s : Shared} {H : Hp} {E : XK} {us : List Value} {vs : List V} {h₀ : Heap} {tk : Nat}
    (S : ScK N scope) (hd : A.handled = none) (e0 : Env0 P w K mg base A outer s H) (hl : vs.length = N.length) (r : Vals vs us)
    (hcell : ∃ cl cld csl, K.lookup cc = some ⟨cl, cld, .cell (some (.ref C)), csl⟩)
    (hns : h₀.Ns s.heap.objs.size fun y => (N.zip us).reverse.lookup y) (hk : ∀ b o, s.heap.get? b = some o → h₀.get? b = some o) :
    Inv (cxK CX P w K mg base N qual scope f cda cc A outer s H E) [] (vs.map some) H { s with heap := h₀, toks := tk } := by
  have noA : ∀ b : Addr, b ∉ (cxK CX P w K mg base N qual scope f cda cc A outer s H E).ex := fun b z => absurd (show b ∈ ([] : List Addr) from z) (by simp)
  have cOnly : ∀ {y c}, ([("__class__", cc)] : List (Str × Addr)).lookup y = some c → y = "__class__" ∧ c = cc := fun {y c} e => by
    have hm := PySem.mem_of_lookup e
    simp only [List.mem_singleton, Prod.mk.injEq] at hm
    exact hm
  obtain ⟨cl, cld, csl, lc⟩ := hcell
  have hcb := e0.mod.kin _ _ lc
  obtain ⟨hcs, hcn⟩ := e0.bs _ _ hcb
  refine ⟨⟨e0.mod, S.kind, rfl, rfl, Nat.le_refl _, fun y z c h1 h2 => ?_, fun y hy => ?_, fun y c z _ => ?_, fun _ => hd, Around.frames_deeper e0.frames, .inr ⟨rfl, rfl⟩, fun b z => absurd z (noA b), e0.bs, e0.bsz, fun b _ _ => noA b, fun b z => absurd z (noA b), e0.funs, e0.frf⟩,
    rfl, e0.bare, Un.kept hk, ⟨_, hns, fun i y v h1 h2 h3 => ?_⟩, fun y c h => ?_, e0.hok.fresh (Nat.le_refl _), fun y c h => ?_, fun p hp => absurd (show p ∈ ([] : List (Addr × Obj)) from hp) (by simp), e0.hok.kept hk, ?_⟩
  · rw [(cOnly h1).1, (cOnly h2).1]
  · have hy : scope.names.lookup y = some .cell ∨ scope.names.lookup y = some .free := hy
    rcases hy with hy | hy
    · exact absurd rfl (S.nocell _ (PySem.mem_of_lookup hy))
    · have e := S.free _ (PySem.mem_of_lookup hy) rfl
      have e' : y = "__class__" := e
      subst e'
      exact ⟨cc, rfl⟩
  · have z : false = true := z
    cases z
  · have h2 : (vs.map some)[i]? = some (some v) := h2
    rw [List.getElem?_map] at h2
    have ha : vs[i]? = some v := by
      cases e : vs[i]? with
      | none => rw [e] at h2; cases h2
      | some a => rw [e] at h2; cases h2; rfl
    obtain ⟨u, hu, rv⟩ := r.get ha
    exact ⟨u, rv, .inl ⟨S.par y (List.mem_of_getElem? h1), zip_lookup S.nd h1 hu⟩⟩
  · obtain ⟨e1, e2⟩ := cOnly h
    subst e2
    exact ⟨_, _, hk _ _ hcs, rfl⟩
  · obtain ⟨e1, e2⟩ := cOnly h
    subst e2
    exact hcn
  · show (vs.map some).length = N.length
    rw [List.length_map]
    exact hl

section
open PySem.W PySem.Calls
theorem mcall_ofA {o : Expr} {m : Str} {apos pos : Pos} {args : List Expr} {kws : List Keyword} {env : Env} {t : Value → Sem Value}
    (h : ∀ ov, methodCall o m apos pos env ov (args.length + kws.length) (backTo pos (starEach args env)) (backToKw pos (keywordEach kws env)) = t ov) :
    eval (.Call (.Attribute o m apos) args kws pos) env = (do
      let ov ← attributeBase o m env (eval o env)
      standAt apos.atName
      t ov) := by
  rw [arm_eval_Call]
  have e : (fun ov => methodCall o m apos pos env ov (args.length + kws.length) (backTo pos (starEach args env)) (backToKw pos (keywordEach kws env))) = t := funext h
  rw [← e]
theorem ev_super {o : Expr} {m : Str} {apos pos : Pos} {args : List Expr} {env : Env} (hf : methodCallForm (args.length + 0) (backTo pos (starEach args env)) [] = true) (hl : (apos.endLine == pos.line) = true) :
    eval (.Call (.Attribute o m apos) args [] pos) env = (do
      let ov ← attributeBase o m env (eval o env)
      standAt apos.atName
      let (f, first) ← holding [ov] (getMethod ov m (plainOf o env))
      callWith pos f first (backTo pos (starEach args env)) []) :=
  mcall_ofA (kws := []) fun ov => mcall_line hf hl
/-- super().__init__(es), then the rest of the body -/
theorem super_rest {X : Cx} {σ : L2.St} {H : Hp} {s : Shared} {q : Str} {scope : Scope} {L f cda cc C a : Addr} {ar : Arg} {i : Nat} {body rest : List Stmt} {e : Expr} {es : List Expr} {ta : TA} {t : TS} {D : Ends} {p0 p1 p2 p5 p6 : Pos} {pl : Sem Bool}
    (S : SupC X.prog X.K f cda cc C ar) (I : Inv X [] σ H s) (hen : X.env = ksEnv q scope L f (.ref cda) cc)
    (hks : scope.names.lookup ("super" : Str) = some .globalImplicit) (hkc : scope.names.lookup ("__class__" : Str) = some .free) (hka : scope.names.lookup ar.arg = some .local) (hk : scope.kind = .function)
    (hN : X.N[i]? = some ar.arg) (hσ : σ[i]? = some (some (.ref a))) (ha : H a = some (exo a C none)) (hpa : PA X (e :: es) ta) (hps : PSs X rest t)
    (hq : ta σ H fun ws H1 => ws.length ≤ 1000 ∧ H1 a = some (exo a C none) ∧ t D σ H1)
    (hev : eval (.Call (.Attribute (.Call (.Name "super" p0) [] [] p1) "__init__" p2) (e :: es) [] p5) X.env = (do
      let ov ← attributeBase (.Call (.Name "super" p0) [] [] p1) "__init__" X.env (eval (.Call (.Name "super" p0) [] [] p1) X.env)
      standAt p2.atName
      let (f, first) ← holding [ov] (getMethod ov "__init__" pl)
      callWith p5 f first (backTo p5 (starEach (e :: es) X.env)) []))
    (hst : starEach (e :: es) X.env = (false, eval e X.env) :: starEach es X.env := by rfl) (hplain : (backTo p5 (starEach es X.env)).any (·.1) = false := by rfl)
    (hsw : swapsWith (.Call (.Attribute (.Call (.Name "super" p0) [] [] p1) "__init__" p2) (e :: es) [] p5) none p6.line X.env = pure false := by rfl) :
    _root_.PySem.wpAt (model X.prog X.w) X.A (.func body X.env) (execs (.Expr (.Call (.Attribute (.Call (.Name "super" p0) [] [] p1) "__init__" p2) (e :: es) [] p5) p6 :: rest) X.env) (SP X [] D) X.xe s := by
  refine ks_wpAt_execs_cons (ks_wpAt_Expr_any (Q := fun f s' => match f with | .next => _root_.PySem.wpAt (model X.prog X.w) X.A (.func body X.env) (execs rest X.env) (SP X [] D) X.xe s' | f => SP X [] D f s') ?_ I.quiet hsw)
  refine ks_wpAt_MethodCall (pl := pl) (super_obj S I hen hks hkc hka hk hN hσ ha fun so s1 I1 hso => ?_) hev
  refine super_meth S I1 ha hso fun u s2 I2 hu hge hlt => ?_
  have I2p : Inv X [(u, kxs_mw "ValueError.__init__" a)] σ H s2 := I2.pins_of fun p hp => by
    have e : p = (u, kxs_mw "ValueError.__init__" a) := by simpa using hp
    subst e
    exact ⟨hu, I1.hok.fresh hge, Nat.ne_of_gt (Nat.lt_of_lt_of_le I1.lt hge), I1.nofs hge, fun v z => by cases z⟩
  show wpAny _ _ (callWith p5 (.ref u) [] (backTo p5 (starEach (e :: es) X.env)) []) _ _ _
  rw [hst]
  refine kxs_callWith (i := "ValueError.__init__") (x := a) (by show (false || (backTo p5 (starEach es X.env)).any (·.1)) = false; rw [hplain]; rfl) ?_
  have h2 := hpa.run p5 _ s2 σ H _ I2p hq
  rw [hst] at h2
  refine evalArgs_plain (thn h2 fun us s3 ⟨vs, H1, I3, r3, hz, ha3, q3⟩ => ?_)
  have hu3 := (I3.pin (u, kxs_mw "ValueError.__init__" a) (List.mem_append_right _ (List.mem_singleton_self _))).1
  refine ⟨hu3, ?_⟩
  obtain ⟨nm, qq, N, bs, bm, sn, sub, ab, col, dd, k0, k1, k2, k3, k5, hC, hbm⟩ := S.ox.cls
  obtain ⟨t1, ho⟩ := exo_at I3.hok ha3
  have KX3 : X.K.In s3.heap := I3.kIn
  have hlen : us.length ≤ sizeLine := by
    rw [← Paired.length r3, sizeLine_eq]
    omega
  have I4 : Inv X [] σ H1 s3 := I3.pins_of fun p hp => absurd hp (by simp)
  obtain ⟨hp, g, d, t0, os⟩ := s3
  show wpAny (model X.prog X.w) X.A (call (.ref u) us) (fun _ s' => _root_.PySem.wpAt (model X.prog X.w) X.A (.func body X.env) (execs rest X.env) (SP X [] D) X.xe s') X.xe _
  refine call_bwV (KX3 _ _ hC) ho hu3 hlen fun h' t2 k hx => ?_
  have J := I4.write (t' := t0) (x := a) (e := a) (o := exo a C none) (by rw [ha3]; exact True.intro) (.inl rfl) k ⟨_, hx⟩ (exo_ok hx)
  have eu : upd H1 a (exo a C none) = H1 := by
    funext b
    by_cases hb : b = a
    · rw [hb, upd_same, ha3]
    · rw [upd_ne hb]
  rw [eu] at J
  exact PySem.wpAt_of_wpAny (hps.run [] _ σ H1 D J q3)
/-- an __init__ that begins so -/
theorem fn_super {CX : CXT} {P : Program} {w : World} {K : PySem.W.Frag} {mg : Str → Option Value} {base : Heap} {k : Nat} {f cda cc C : Addr} {name qual : Str} {params : Arguments} {st : Stmt} {rest : List Stmt} {scope : Scope} {dV kV doc pm ct oc : Value} {an od : Option Addr}
    {osl : Array (Option Value)} {N : List Str} {sp : Sp} {ar : Arg} (lk : K.lookup f = some ⟨oc, od, .func (fnX name qual params (st :: rest) scope [("__class__", cc)] dV kV doc pm an (.ref cda) ct), osl⟩) (hcd : PySem.W.codeIn K (.ref cda) qual = true)
    (S : SupC P K f cda cc C ar) (Sc : ScK N scope) (len : ∀ vs H Q E, sp vs H Q E → vs.length = N.length)
    (hbody : ∀ (A : Around) (outer : List Env) (s s1 : Shared) (H : Hp) (vs : List V) (Q : VK) (E : XK), sp vs H Q E → Inv (cxK CX P w K mg base N qual scope f cda cc A outer s H E) [] (vs.map some) H s1 →
      _root_.PySem.wpAt (model P w) (A.deeper (envK qual scope s.heap.objs.size f cda cc)) (.func (st :: rest) (envK qual scope s.heap.objs.size f cda cc)) (execs (st :: rest) (envK qual scope s.heap.objs.size f cda cc))
        (SP (cxK CX P w K mg base N qual scope f cda cc A outer s H E) [] { nx := fun _ H' => Q .non H', rt := Q }) (cxK CX P w K mg base N qual scope f cda cc A outer s H E).xe s1) :
    FnOk P w K mg base CX (k + 1) f (fnX name qual params (st :: rest) scope [("__class__", cc)] dV kV doc pm an (.ref cda) ct) N sp := by
  refine ⟨len, fun A outer s H args us vs Q E hr e0 hb r hsp => ?_⟩
  have hl := len _ _ _ _ hsp
  have KX : K.In s.heap := e0.mod.kin.keeps fun b o e => (e0.bs b o e).1
  have lim : s.heap.NoLimit := e0.mod.nolimit.keeps fun b o e => (e0.bs b o e).1
  refine ks_codeAny_call_defAt (fd := fnX name qual params (st :: rest) scope [("__class__", cc)] dV kV doc pm an (.ref cda) ct) (body := st :: rest) (binds := N.zip us) hr.depth (KX _ _ lk) rfl lim (PySem.W.codeRec_of KX hcd) rfl hb Sc.nocell (fun y hy => Sc.par _ (List.of_mem_zip hy).1) (fun h₀ hns hk => ?_) Sc.co Sc.gen Sc.kind
  have I := start_K (CX := CX) (P := P) (w := w) (mg := mg) (qual := qual) (f := f) (cda := cda) (E := E) (tk := s.toks + (N.zip us).length) Sc hr.hd e0 hl r S.cell hns hk
  refine ks_wpAt_mono (hbody A outer s _ H vs Q E hsp I) (fun fl s' hs => ?_) fun e s' hs => hs
  have fin : ∀ {σ' : L2.St} {H' : Hp} {v : V} {u : Value}, Inv (cxK CX P w K mg base N qual scope f cda cc A outer s H E) [] σ' H' s' → L2.RelV v u → Q v H' → CE outer P w H s Q u s' :=
    fun {σ' H' v u} J rv q => ⟨v, H', J.os, J.bare, J.base, J.hok, rv, q⟩
  cases fl with
  | ret u =>
    obtain ⟨v, σ', H', J, rv, q⟩ := hs
    exact fin J rv q
  | next =>
    obtain ⟨σ', H', J, q⟩ := hs
    exact fin (v := V.non) (u := Value.none) J rfl q
  | brk =>
    obtain ⟨_, _, _, q⟩ := hs
    exact False.elim q
  | cont =>
    obtain ⟨_, _, _, q⟩ := hs
    exact False.elim q
/-- the promise: self is the exception; its fields, one after another, in a new dict -/
def spInit2 (C : Addr) (x1 x2 : Str) : Sp := fun vs H Q _ => ∃ (a : Addr) (v1 v2 : V), vs = [.ref a, v1, v2] ∧ H a = some (exo a C none) ∧
  ∀ d, H d = none → d ≠ a → Q .non (upd (upd (upd H d (exd d [(x1, v1)])) a (exo a C (some d))) d (exd d [(x2, v2), (x1, v1)]))
theorem ok_init2 {P : Program} {w : World} {K : PySem.W.Frag} {mg : Str → Option Value} {base : Heap} {f cda cc C : Addr} {name qual x1 x2 : Str} {params : Arguments} {scope : Scope} {dV kV doc pm ct oc : Value} {an od : Option Addr}
    {osl : Array (Option Value)} {ar : Arg} {p0 p1 p2 p3 p4 p5 p6 p7 p8 p9 p10 p11 p12 p13 p14 : Pos}
    (lk : K.lookup f = some ⟨oc, od, .func (fnX name qual params [.Expr (.Call (.Attribute (.Call (.Name "super" p0) [] [] p1) "__init__" p2) [.Name x1 p3, .Name x2 p4] [] p5) p6,
      .Assign [.Attribute (.Name ar.arg p7) x1 p8] (.Name x1 p9) p10, .Assign [.Attribute (.Name ar.arg p11) x2 p12] (.Name x2 p13) p14] scope [("__class__", cc)] dV kV doc pm an (.ref cda) ct), osl⟩) (hcd : PySem.W.codeIn K (.ref cda) qual = true)
    (S : SupC P K f cda cc C ar) (Sc : ScK [ar.arg, x1, x2] scope) (n1 : PySem.W.findIn K (.ref C) x1 = some none) (n2 : PySem.W.findIn K (.ref C) x2 = some none)
    (da : (ar.arg == ("__debug__" : Str)) = false := by decide) (da2 : (ar.arg == ("__classdict__" : Str)) = false := by decide) (d1 : (x1 == ("__debug__" : Str)) = false := by decide) (d12 : (x1 == ("__classdict__" : Str)) = false := by decide)
    (d2 : (x2 == ("__debug__" : Str)) = false := by decide) (d22 : (x2 == ("__classdict__" : Str)) = false := by decide) (hln : (p2.endLine == p5.line) = true := by decide) :
    FnOk P w K mg base CX0 1 f (fnX name qual params [.Expr (.Call (.Attribute (.Call (.Name "super" p0) [] [] p1) "__init__" p2) [.Name x1 p3, .Name x2 p4] [] p5) p6,
      .Assign [.Attribute (.Name ar.arg p7) x1 p8] (.Name x1 p9) p10, .Assign [.Attribute (.Name ar.arg p11) x2 p12] (.Name x2 p13) p14] scope [("__class__", cc)] dV kV doc pm an (.ref cda) ct) [ar.arg, x1, x2] (spInit2 C x1 x2) := by
  refine fn_super lk hcd S Sc (fun vs H Q E h => ?_) fun A outer s s1 H vs Q E h I => ?_
  · obtain ⟨a, v1, v2, rfl, _⟩ := h
    rfl
  · obtain ⟨a, v1, v2, rfl, ha, hq⟩ := h
    have va : PE (cxK CX0 P w K mg base [ar.arg, x1, x2] qual scope f cda cc A outer s H E) (.Name ar.arg p7) (tVar 0) := pe_var (i := 0) rfl (.inl (Sc.par _ (by simp))) da da2
    have va' : PE (cxK CX0 P w K mg base [ar.arg, x1, x2] qual scope f cda cc A outer s H E) (.Name ar.arg p11) (tVar 0) := pe_var (i := 0) rfl (.inl (Sc.par _ (by simp))) da da2
    have v1p : ∀ p, PE (cxK CX0 P w K mg base [ar.arg, x1, x2] qual scope f cda cc A outer s H E) (.Name x1 p) (tVar 1) := fun p => pe_var (i := 1) rfl (.inl (Sc.par _ (by simp))) d1 d12
    have v2p : ∀ p, PE (cxK CX0 P w K mg base [ar.arg, x1, x2] qual scope f cda cc A outer s H E) (.Name x2 p) (tVar 2) := fun p => pe_var (i := 2) rfl (.inl (Sc.par _ (by simp))) d2 d22
    refine super_rest (X := cxK CX0 P w K mg base [ar.arg, x1, x2] qual scope f cda cc A outer s H E) (i := 0) (a := a) (C := C) (L := s.heap.objs.size) (q := qual) S I rfl Sc.ksup Sc.kcls (Sc.par _ (by simp)) Sc.kind rfl rfl ha (pa_cons (v1p p3) (pa_cons (v2p p4) pa_nil))
      (pss_cons (ps_ost va (v1p p9)) (pss_one (ps_ost va' (v2p p13)))) ?_ (ev_super rfl hln)
    refine ⟨_, rfl, _, rfl, by show 2 ≤ 1000; decide, ha, ?_⟩
    refine ⟨_, rfl, _, rfl, a, C, rfl, S.ox, n1, .inl ⟨ha, fun d hd hda => ?_⟩⟩
    refine ⟨_, rfl, _, rfl, a, C, rfl, S.ox, n2, .inr ⟨d, [(x1, v1)], upd_same, ?_, by show 1 ≤ 900; decide, hq d hd hda⟩⟩
    rw [upd_ne hda, upd_same]
end
end LoreX
namespace LoreX
open PySem PySem.Spec PyProof.Rows L2 LamX
def mA (ta : TA) : TA := fun σ H Q => ∃ P : List V → Hp → Prop, ta σ H P ∧ ∀ vs H', P vs H' → Q vs H'
theorem pa_m {X : Cx} {es : List Expr} {ta : TA} (h : PA X es ta) : PA X es (mA ta) := ⟨fun pos pins s σ H Q I ⟨P, hp, imp⟩ => thn (h.run pos pins s σ H P I hp) fun _ _ ⟨vs, H', I', r, q⟩ => ⟨vs, H', I', r, imp _ _ q⟩⟩
def mE (te : TE) : TE := fun σ H Q => ∃ P : VK, te σ H P ∧ ∀ v H', P v H' → Q v H'
theorem pe_m {X : Cx} {e : Expr} {te : TE} (h : PE X e te) : PE X e (mE te) := ⟨fun pins s σ H Q I ⟨P, hp, imp⟩ => thn (h.run pins s σ H P I hp) fun _ _ ⟨v, H', I', r, q⟩ => ⟨v, H', I', r, imp _ _ q⟩⟩
/-- the class, its __init__ -/
structure Exc2 (P : Program) (w : World) (K : PySem.W.Frag) (mg : Str → Option Value) (base : Heap) (x : Str) (C : Addr) (x1 x2 : Str) : Prop where
  ox : OexC K C
  gl : mg x = some (.ref C)
  fi : ∃ fI fd self, PySem.W.findIn K (.ref C) "__init__" = some (some (.ref fI)) ∧ PySem.W.typeIn K (.ref fI) = some (.type "function") ∧ Binds K fd [self, x1, x2] [] ∧ FnOk P w K mg base CX0 1 fI fd [self, x1, x2] (spInit2 C x1 x2)
def tMk2 (C : Addr) (x1 x2 : Str) (ta : TA) : L2.St → Hp → XK → Prop := fun σ H Q => ta σ H fun vs H1 => ∃ v1 v2, vs = [v1, v2] ∧ ∀ d, H1 d = none → Q (.ref C) (some d) (upd H1 d (.xd [(x2, v2), (x1, v1)]))
theorem pmk2 {X : Cx} {x x1 x2 : Str} {C : Addr} {e : Expr} {es : List Expr} {ta : TA} {p pos : Pos} (T : Exc2 X.prog X.w X.K X.mg X.base x C x1 x2) (hr : Room 2 X.A) (hg : Gl X x) (ha : PA X (e :: es) ta)
    (hdb : (x == ("__debug__" : Str)) = false := by decide) (he : starEach (e :: es) X.env = (false, eval e X.env) :: starEach es X.env := by rfl) (hpl : (backTo pos (starEach es X.env)).any (·.1) = false := by rfl) :
    PMk X (.Call (.Name x p) (e :: es) [] pos) (tMk2 C x1 x2 ta) := by
  obtain ⟨fI, fd, self, h1, h2, h3, h4⟩ := T.fi
  intro pins s σ H Q I h
  refine pmk_oex (dvs := []) T.ox h1 h2 h4 hr h3 .nil pass0 hg T.gl (pa_m ha) hdb he hpl pins s σ H Q I ?_
  refine ⟨_, h, fun vs H1 ⟨v1, v2, ev, q⟩ => ?_⟩
  subst ev
  refine ⟨by show 2 ≤ 1000; decide, fun a hna => ⟨a, v1, v2, rfl, upd_same, fun d hd hda => ⟨rfl, d, _, ?_, upd_same, ?_, ?_⟩⟩⟩
  · rw [upd_ne (Ne.symm hda), upd_same]
  · rw [upd_ne hda] at hd
    exact hd
  · rw [upd_ne hda] at hd
    have e : upd (del (upd (upd (upd (upd H1 a (exo a C none)) d (exd d [(x1, v1)])) a (exo a C (some d))) d (exd d [(x2, v2), (x1, v1)])) a) d (.xd [(x2, v2), (x1, v1)]) = upd H1 d (.xd [(x2, v2), (x1, v1)]) := by
      funext b
      by_cases hb : b = d
      · subst hb
        rw [upd_same, upd_same]
      · rw [upd_ne hb, upd_ne hb]
        by_cases hba : b = a
        · subst hba
          rw [del_same]
          exact hna.symm
        · rw [del_ne hba, upd_ne hb, upd_ne hba, upd_ne hb, upd_ne hba]
    rw [e]
    exact q d hd
theorem takes_len {X : Cx} {W : WX} (t : Takes X W) : Takes X (fun cls d σ H => σ.length = X.N.length → W cls d σ H) := fun u s' ⟨a, B, sI, pins, σ, H, cls, d, e, I, nb, up, sky, na, os, ag, w⟩ =>
  t u s' ⟨a, B, sI, pins, σ, H, cls, d, e, I, nb, up, sky, na, os, ag, w I.len⟩
def TTheard2 (C : Addr) (told word f1 f2 : Str) : (XK → Hp → VK → Prop) → Hp → VK → Prop := fun tl H Q =>
  tl (fun cls d H' => cls = .ref C ∧ ∃ (dd : Addr) (fs : List (Str × V)) (v1 v2 : V), d = some dd ∧ H' dd = some (.xd fs) ∧ fs.lookup f1 = some v1 ∧ fs.lookup f2 = some v2 ∧ ∀ p, H' p = none → Q (.ref p) (upd H' p (.tup [.str word, v1, v2])))
    H fun v H1 => ([V.str told, v] : List V).length ≤ sizeLine ∧ ∀ p, H1 p = none → Q (.ref p) (upd H1 p (.tup [.str told, v]))
theorem heard2_gives {X : Cx} {x a n e q told word f1 f2 : Str} {sg : Scope} {g C : Addr} {cdg : Value} {j j2 k1 k2 : Nat} {p0 p1 p2 p3 p4 p5 p6 p7 p8 p9 p10 p11 p12 p13 p14 : Pos}
    (hge : sg.names.lookup e = some .globalImplicit) (hgn : sg.names.lookup n = some .local) (hne : a ≠ n) (hme : X.mg e = some (.ref C)) (hde : (e == ("__debug__" : Str)) = false) (hdn : (n == ("__debug__" : Str)) = false) (hdn2 : (n == ("__classdict__" : Str)) = false)
    (T : XfC X.K C) (n1 : PySem.W.findIn X.K (.ref C) f1 = some none) (n2 : PySem.W.findIn X.K (.ref C) f2 = some none) (hex : PySem.W.exmOne X.K (.ref C) (.ref C) = some true) :
    GivesTo X [a, n] x sg g cdg [.Try [.Return (some (.Tuple [.Constant (.str told) j p0, .Call (.Name a p1) [] [] p2] k1 p3)) p4] [.ExceptHandler (some (.Name e p5)) (some n)
      [.Return (some (.Tuple [.Constant (.str word) j2 p6, .Attribute (.Name n p7) f1 p8, .Attribute (.Name n p9) f2 p10] k2 p11)) p12] p13] [] [] p14] a q (TTheard2 C told word f1 f2) := by
  intro f c' s H Q tl act hc h
  have hgl : Gl (cxOf C8.CX0 X.prog X.w X.K X.mg X.base [a, n] x sg g cdg X.A X.stack s H C8.E0).nox e := hge
  have nd : ([a, n] : List Str).Nodup := by simp [hne]
  have vn : ∀ (Y : Cx) (p : Pos), Y.N = [a, n] → Y.env.scope = sg → PE Y (.Name n p) (tVar 1) := fun Y p e1 e2 => pe_var (i := 1) (by rw [e1]; rfl) (by rw [e2]; exact .inl hgn) hdn hdn2
  refine ⟨_, pss_one (ps_try_as (X := (cxOf C8.CX0 X.prog X.w X.K X.mg X.base [a, n] x sg g cdg X.A X.stack s H C8.E0).nox) (c := .ref C) (i := 1)
      (tb := fun W D σ H => ∃ Ech : XK, (∀ cls d σ' H', Ech cls d H' → σ'.length = 2 → W cls d σ' H') ∧ σ[0]? = some (some (.ref f)) ∧ H c' = some (CodeO c' q) ∧ tl Ech H fun v H1 => ([V.str told, v] : List V).length ≤ sizeLine ∧ ∀ p, H1 p = none → D.rt (.ref p) (upd H1 p (.tup [.str told, v])))
      (Wout := fun _ _ _ _ => False) rfl rfl nd rfl hgn ⟨hgl, hde, .inl hme⟩ LamX.takes0 (fun W pn xe tk _ => ?_)
      (fun ad oe cls d pn hz hf => pss_one (ps_ret (pe_tup (pa_cons pe_str (pa_cons (pe_xf T n1 hz hf (vn _ _ rfl rfl)) (pa_cons (pe_xf T n2 hz hf (vn _ _ rfl rfl)) pa_nil))))))), ?_⟩
  · refine ⟨fun pins s' σ H' D I h' => ?_⟩
    obtain ⟨Ech, hW, h1, h2, h3⟩ := h'
    have hp := act _ pn xe Ech p1 p2 (takes_len tk) (fun cls d σ' H' he hl => hW cls d σ' H' he hl)
    have hq := pss_one (ps_ret (pos := p4) (pe_tup (x1 := k1) (pos := p3) (pa_cons (pe_str (x := told) (j := j) (pos := p0)) (pa_cons hp pa_nil))))
    refine hq.run pins s' σ H' D I ?_
    exact ⟨h1, h2, h3⟩
  · refine ⟨_, fun cls d σ' H' hE hl => ?_, rfl, hc, h⟩
    obtain ⟨rfl, dd, fs, v1, v2, rfl, hdd, l1, l2, hq⟩ := hE
    refine ⟨true, hex, fun _ ad had => ?_, fun z => by cases z⟩
    match σ', hl with
    | [z0, z1], _ =>
      refine ⟨_, rfl, rfl, rfl, dd, fs, v1, rfl, hdd, l1, _, rfl, rfl, rfl, dd, fs, v2, rfl, hdd, l2, by show 3 ≤ sizeLine; decide, hq⟩
end LoreX
namespace LoreX
open PySem PySem.Spec PyProof.Rows L2 He
def clsOk (K : PySem.W.Frag) (C : Addr) : Bool := match K.lookup C with
  | some ⟨.type "type", _, .cls cd, sl⟩ => (match cd.mro, sl.toList with
    | .ref C' :: bm, [_, _, _, _, some (.builtin n), _] => decide (C' = C) && (decide (n = "ValueError.__new__") && ((!cd.hasDel) && (cd.hasDict && PySem.HandSPX.refsVE bm)))
    | _, _ => false)
  | _ => false
theorem clsOk_of {K : PySem.W.Frag} {C : Addr} (h : clsOk K C = true) : ∃ nm q N bs bm sn sub ab col dd k0 k1 k2 k3 k5, K.lookup C = some (excClassObj nm q C N bs bm true sn sub ab col dd k0 k1 k2 k3 k5 "ValueError.__new__") ∧ PySem.HandSPX.refsVE bm = true := by
  unfold clsOk at h
  split at h
  · rename_i dd cd sl ho
    split at h
    · rename_i C' bm k0 k1 k2 k3 n k5 hm hs
      obtain ⟨h1, h⟩ := ba h
      obtain ⟨h2, h⟩ := ba h
      obtain ⟨h3, h⟩ := ba h
      obtain ⟨h4, h5⟩ := ba h
      have e1 := of_decide_eq_true h1
      have e2 := of_decide_eq_true h2
      subst e1 e2
      obtain ⟨nm, bs, mro, ns, qn, hd, sn, sub, ab, col, del⟩ := cd
      dsimp only at hm h3 h4
      have h3' : del = false := by cases del <;> simp_all
      subst hm h3' h4
      have hsl : sl = #[k0, k1, k2, k3, some (.builtin "ValueError.__new__"), k5] := by
        obtain ⟨l⟩ := sl
        simp only at hs
        rw [hs]
      subst hsl
      exact ⟨nm, qn, ns, bs, bm, sn, sub, ab, col, dd, k0, k1, k2, k3, k5, ho, h5⟩
    · cases h
  · cases h
def isNon : Value → Bool
  | .none => true
  | _ => false
theorem isNon_eq {v : Value} (h : isNon v = true) : v = .none := by
  cases v <;> first | rfl | cases h
def initOk (K : PySem.W.Frag) (file x : Str) : Bool := match K.lookup (fAd K (x, some "__init__")) with
  | some ⟨_, _, .func fd, _⟩ => (match fd.closure, fd.code with
    | [(_, c)], .ref cda => (match K.lookup c with
      | some ⟨_, _, .cell (some (.ref D)), _⟩ => decide (D = ga K x)
      | _ => false) && ((match K.lookup cda with
      | some ⟨_, _, .fields vs, _⟩ => (match (vs[2]? : Option Value) with
        | some (Value.str fl _) => file == fl
        | _ => false)
      | _ => false) && (PySem.W.codeIn K (.ref cda) fd.qualname && isNon fd.defaults))
    | _, _ => false)
  | _ => false
theorem initOk_of {K : PySem.W.Frag} {file x : Str} (h : initOk K file x = true) : ∃ oc od fd osl y c cda, K.lookup (fAd K (x, some "__init__")) = some ⟨oc, od, .func fd, osl⟩ ∧ fd.closure = [(y, c)] ∧ fd.code = .ref cda ∧ (∃ cl cld csl, K.lookup c = some ⟨cl, cld, .cell (some (.ref (ga K x))), csl⟩) ∧
    (∃ ccl cdd vs ccs fl tf, K.lookup cda = some ⟨ccl, cdd, .fields vs, ccs⟩ ∧ vs[2]? = some (.str fl tf) ∧ (file == fl) = true) ∧ PySem.W.codeIn K (.ref cda) fd.qualname = true ∧ fd.defaults = .none := by
  unfold initOk at h
  split at h
  · rename_i oc od fd osl ho
    split at h
    · rename_i y c cda hcl hcd
      obtain ⟨h1, h⟩ := ba h
      obtain ⟨h2, h3⟩ := ba h
      obtain ⟨h3, h4⟩ := ba h3
      refine ⟨oc, od, fd, osl, y, c, cda, ho, hcl, hcd, ?_, ?_, h3, isNon_eq h4⟩
      · split at h1
        · rename_i cl cld D csl hc
          have e := of_decide_eq_true h1
          subst e
          exact ⟨cl, cld, csl, hc⟩
        · cases h1
      · split at h2
        · rename_i ccl cdd vs ccs hc
          split at h2
          · rename_i fl tf hv
            exact ⟨ccl, cdd, vs, ccs, fl, tf, hc, hv, h2⟩
          · cases h2
        · cases h2
    · cases h
  · cases h
/-- all that is asked of the class x with the fields fs -/
def exAll (K : PySem.W.Frag) (file x : Str) (fs : List Str) : Bool :=
  clsOk K (ga K x) && (eqO (PySem.W.findIn K (.ref (ga K x)) "__setattr__") (some (some (.builtin "object.__setattr__"))) && (decide (PySem.W.subIn K (.ref (ga K x)) (.type "BaseException") = some true) && (decide (PySem.W.typeIn K (.ref (ga K x)) = some (.type "type")) &&
    (PySem.W.keepIn K (.ref (ga K x)) && (eqO (PySem.W.findIn K (.ref (ga K x)) "__init__") (some (some (.ref (fAd K (x, some "__init__"))))) && (decide (PySem.W.typeIn K (.ref (fAd K (x, some "__init__"))) = some (.type "function")) && ((fs.all fun f => eqO (PySem.W.findIn K (.ref (ga K x)) f) (some none)) &&
    (decide (PySem.W.mroIn K (ga K x) (.ref (ga K x)) = some true) && (eqO (PySem.W.nsIn K mainGlobals "super") (some none) && (eqO (PySem.W.ks_superIn K (ga K x) (ga K x) "__init__") (some (some (.builtin "ValueError.__init__"))) && (decide (PySem.W.subIn K (.ref (ga K x)) (.type "ValueError") = some true) &&
    (eqO (PySem.W.nsIn K cStatics "thirdparty.any") (some none) && (xfB K (ga K x) && initOk K file x)))))))))))))
structure ExAll (K : PySem.W.Frag) (file x : Str) (fs : List Str) : Prop where
  ox : OexC K (ga K x)
  find : PySem.W.findIn K (.ref (ga K x)) "__init__" = some (some (.ref (fAd K (x, some "__init__"))))
  fty : PySem.W.typeIn K (.ref (fAd K (x, some "__init__"))) = some (.type "function")
  nof : ∀ f ∈ fs, PySem.W.findIn K (.ref (ga K x)) f = some none
  mro : PySem.W.mroIn K (ga K x) (.ref (ga K x)) = some true
  nosuper : PySem.W.nsIn K mainGlobals "super" = some none
  init : PySem.W.ks_superIn K (ga K x) (ga K x) "__init__" = some (some (.builtin "ValueError.__init__"))
  ve : PySem.W.subIn K (.ref (ga K x)) (.type "ValueError") = some true
  opq : PySem.W.nsIn K cStatics "thirdparty.any" = some none
  xf : XfC K (ga K x)
  io : initOk K file x = true
theorem exAll_of {K : PySem.W.Frag} {file x : Str} {fs : List Str} (h : exAll K file x fs = true) : ExAll K file x fs := by
  obtain ⟨h1, h⟩ := ba h
  obtain ⟨h2, h⟩ := ba h
  obtain ⟨h3, h⟩ := ba h
  obtain ⟨h4, h⟩ := ba h
  obtain ⟨h5, h⟩ := ba h
  obtain ⟨h6, h⟩ := ba h
  obtain ⟨h7, h⟩ := ba h
  obtain ⟨h8, h⟩ := ba h
  obtain ⟨h9, h⟩ := ba h
  obtain ⟨h10, h⟩ := ba h
  obtain ⟨h11, h⟩ := ba h
  obtain ⟨h12, h⟩ := ba h
  obtain ⟨h13, h⟩ := ba h
  obtain ⟨h14, h15⟩ := ba h
  exact ⟨⟨clsOk_of h1, eqO_ok h2, of_decide_eq_true h3, of_decide_eq_true h4, h5⟩, eqO_ok h6, of_decide_eq_true h7, fun f hf => eqO_ok (List.all_eq_true.mp h8 f hf), of_decide_eq_true h9, eqO_ok h10, eqO_ok h11, of_decide_eq_true h12, eqO_ok h13, xfB_ok h14, h15⟩
/-- the def with a closure, from its row -/
theorem clo_of {K : PySem.W.Frag} {d : DefD} {cl : List Str} (e : fnC K d.at_ = d.valC cl) {oc : Value} {od : Option Addr} {fd : FuncData} {osl : Array (Option Value)} (lk : K.lookup (fAd K d.at_) = some ⟨oc, od, .func fd, osl⟩) :
    ∃ dV kV doc pm an cdv ct, fd = PySem.W.fnX d.name d.qual d.params d.body d.scope fd.closure dV kV doc pm an cdv ct ∧ fd.code = cdv ∧ fd.closure.map (·.1) = cl ∧ fd.defaults = dV := by
  unfold fnC at e
  rw [lk] at e
  obtain ⟨n1, n2, n3, n4, n5, n6, n7, n8, n9, n10, n11, n12, n13, n14, n15⟩ := fd
  have e2 : (some (n1, n2, n3, n4, n5, n6, n7.map (·.1), n15) : FnC) = some (d.name, d.qual, d.params, .stmts d.body, d.scope, mainGlobals, cl, builtinsNs) := e
  simp only [Option.some.injEq, Prod.mk.injEq] at e2
  obtain ⟨h1, h2, h3, h4, h5, h6, h7, h8⟩ := e2
  subst h1 h2 h3 h4 h5 h6 h8
  exact ⟨n8, n9, n10, n11, n12, n13, n14, rfl, rfl, h7, rfl⟩
end LoreX
namespace LoreZ
open PySem PySem.Calls PyProof.Rows PyProof.V PySem.Spec RZ
theorem zip_no_len : typeLookup (.type "zip") "__len__" = pure none := by rw [typeLookup_type, builtinLookup_eq_fast]; kernel_rfl
theorem zip_no_hint : typeLookup (.type "zip") "__length_hint__" = pure none := by rw [typeLookup_type, builtinLookup_eq_fast]; kernel_rfl
section
variable {prog : Program} {w : World} {A : Around} {E : Value → Shared → Prop} {s : Shared}
theorem zipT_next_held {z TI TO T i1 i2 l1 l2 : Addr} {f : Bool} {oT : Obj} {k1 k2 : Nat} {xs ys : Array Value} {x y : Value} {Q : Value → Shared → Prop} (D : ZipApart z TI TO i1 i2 l1 l2)
    (hz : IsZipHeld s.heap z TI TO T f) (hT : s.heap.get? T = some oT) (hTI : IsPair s.heap TI (.ref i1) (.ref i2))
    (h1 : s.heap.IsTupleIter i1 l1 k1) (h2 : s.heap.IsTupleIter i2 l2 k2) (hl1 : s.heap.IsTuple l1 xs) (hl2 : s.heap.IsTuple l2 ys) (hx : xs[k1]? = some x) (hy : ys[k2]? = some y)
    (hQ : ∀ h', IsZipHeld h' z TI TO T true → h'.IsTupleIter i1 l1 (k1 + 1) → h'.IsTupleIter i2 l2 (k2 + 1) → IsPair h' s.heap.objs.size x y → h'.objs.size = s.heap.objs.size + 1 →
      (∀ c o, c ≠ z → c ≠ i1 → c ≠ i2 → s.heap.get? c = some o → h'.get? c = some o) → Q (.ref s.heap.objs.size) { s with heap := h' }) :
    wpAny (model prog w) A (Builtin.«zip.__next__» ⟨[.ref z], []⟩) (fun fin s' => ∃ v, fin = .done (.ret v) ∧ Q v s') E s := by
  show wpAny _ _ (field (.ref z) 2 >>= _) _ _ _
  refine wpAny_bind (wpAny_field hz rfl (x := .bool false) rfl ?_)
  show wpAny _ _ (field (.ref z) 3 >>= _) _ _ _
  refine wpAny_bind (wpAny_field hz rfl (x := .ref TI) rfl ?_)
  refine wpAny_bind (wpAny_seqItems hTI rfl ?_)
  show wpAny _ _ (Builtin.SmallTypes.ownedTupleIsFree (.ref z) >>= _) _ _ _
  refine wpAny_bind (wpAny_tupleHeld_zip hz hT fun h₁ hz₁ hs₁ => ?_)
  simp only [Bool.false_eq_true, if_false]
  refine wpAny_bind ?_
  rw [← Array.forIn_toList]
  simp only [List.forIn_cons, List.forIn_nil]
  refine wpAny_bind (wpAny_bind (wpAny_holding ?_))
  show wpAny _ _ (Builtin.SmallTypes.nextOf (.ref i1) >>= _) _ _ _
  refine wpAny_bind (nextOf_tuple_item (s := { s with heap := h₁ }) (h1.extBut hs₁.extBut D.i1z) (hl1.extBut hs₁.extBut D.l1z) hx fun h₂ h1₂ hs₂ => wpAny_pure ?_)
  refine wpAny_pure ?_
  refine wpAny_bind (wpAny_bind (wpAny_holding ?_))
  show wpAny _ _ (Builtin.SmallTypes.nextOf (.ref i2) >>= _) _ _ _
  refine wpAny_bind (nextOf_tuple_item (s := { s with heap := h₂ }) ((h2.extBut hs₁.extBut D.i2z).extBut hs₂.extBut D.i12.symm) ((hl2.extBut hs₁.extBut D.l2z).extBut hs₂.extBut D.l2i1) hy fun h₃ h2₃ hs₃ => wpAny_pure ?_)
  refine wpAny_pure (wpAny_pure ?_)
  show wpAny _ _ (newTuple [x, y] >>= _) _ _ _
  refine wpAny_bind (wpAny_newTuple ?_)
  have hsz : h₃.objs.size = s.heap.objs.size := by rw [hs₃.1, hs₂.1, hs₁.1]
  have hz₃ : IsZipHeld h₃ z TI TO T true := hs₃.extBut _ _ D.i2z.symm (hs₂.extBut _ _ D.i1z.symm hz₁)
  have hk : ∀ c o, c ≠ z → c ≠ i1 → c ≠ i2 → s.heap.get? c = some o → h₃.get? c = some o := fun c o c1 c2 c3 e => hs₃.extBut _ _ c3 (hs₂.extBut _ _ c2 (hs₁.extBut _ _ c1 e))
  have h1₃ : h₃.IsTupleIter i1 l1 (k1 + 1) := h1₂.extBut hs₃.extBut D.i12
  refine wpAny_pure ⟨_, rfl, ?_⟩
  show Q (.ref h₃.objs.size) _
  have hp : IsPair (h₃.push { cls := .type "tuple", data := .seq #[x, y] }) h₃.objs.size x y := Heap.get?_push_size _ rfl
  have hz4 : (h₃.push { cls := .type "tuple", data := .seq #[x, y] }).objs.size = h₃.objs.size + 1 := Heap.size_push ..
  rw [hsz] at hp hz4 ⊢
  exact hQ _ (Heap.get?_push_of_some _ hz₃) (h1₃.at fun o e => Heap.get?_push_of_some _ e) (h2₃.at fun o e => Heap.get?_push_of_some _ e) hp hz4 fun c o c1 c2 c3 e => Heap.get?_push_of_some _ (hk c o c1 c2 c3 e)
theorem zipT_end_held {z TI TO T i1 i2 l1 l2 : Addr} {f : Bool} {oT : Obj} {k1 k2 : Nat} {xs ys : Array Value} {Q : Fin → Shared → Prop} (hh : A.handled = none) (D : ZipApart z TI TO i1 i2 l1 l2)
    (hz : IsZipHeld s.heap z TI TO T f) (hT : s.heap.get? T = some oT) (hTI : IsPair s.heap TI (.ref i1) (.ref i2))
    (h1 : s.heap.IsTupleIter i1 l1 k1) (h2 : s.heap.IsTupleIter i2 l2 k2) (hl1 : s.heap.IsTuple l1 xs) (hl2 : s.heap.IsTuple l2 ys) (hend : xs[k1]? = none ∨ ys[k2]? = none)
    (hE : ∀ h' e, (∀ c o, c ≠ z → c ≠ i1 → c ≠ i2 → s.heap.get? c = some o → h'.get? c = some o) → (∃ o, h'.get? e = some o ∧ o.cls = .type "StopIteration") → E (.ref e) { s with heap := h' }) :
    wpAny (model prog w) A (Builtin.«zip.__next__» ⟨[.ref z], []⟩) Q E s := by
  show wpAny _ _ (field (.ref z) 2 >>= _) _ _ _
  refine wpAny_bind (wpAny_field hz rfl (x := .bool false) rfl ?_)
  show wpAny _ _ (field (.ref z) 3 >>= _) _ _ _
  refine wpAny_bind (wpAny_field hz rfl (x := .ref TI) rfl ?_)
  refine wpAny_bind (wpAny_seqItems hTI rfl ?_)
  show wpAny _ _ (Builtin.SmallTypes.ownedTupleIsFree (.ref z) >>= _) _ _ _
  refine wpAny_bind (wpAny_tupleHeld_zip hz hT fun h₁ hz₁ hs₁ => ?_)
  simp only [Bool.false_eq_true, if_false]
  refine wpAny_bind ?_
  rw [← Array.forIn_toList]
  simp only [List.forIn_cons, List.forIn_nil]
  refine wpAny_bind (wpAny_bind (wpAny_holding ?_))
  show wpAny _ _ (Builtin.SmallTypes.nextOf (.ref i1) >>= _) _ _ _
  cases hx : xs[k1]? with
  | none =>
    refine wpAny_bind (nextOf_tuple_end (s := { s with heap := h₁ }) hh (h1.extBut hs₁.extBut D.i1z) (hl1.extBut hs₁.extBut D.l1z) hx fun h₂ e hs₂ he => ?_)
    exact hE h₂ e (fun c o c1 c2 _ x => hs₂ _ _ c2 (hs₁.extBut _ _ c1 x)) he
  | some x =>
    have hy : ys[k2]? = none := by rcases hend with h | h; rw [hx] at h; cases h; exact h
    refine wpAny_bind (nextOf_tuple_item (s := { s with heap := h₁ }) (h1.extBut hs₁.extBut D.i1z) (hl1.extBut hs₁.extBut D.l1z) hx fun h₂ h1₂ hs₂ => wpAny_pure ?_)
    refine wpAny_pure ?_
    refine wpAny_bind (wpAny_bind (wpAny_holding ?_))
    show wpAny _ _ (Builtin.SmallTypes.nextOf (.ref i2) >>= _) _ _ _
    refine wpAny_bind (nextOf_tuple_end (s := { s with heap := h₂ }) hh ((h2.extBut hs₁.extBut D.i2z).extBut hs₂.extBut D.i12.symm) ((hl2.extBut hs₁.extBut D.l2z).extBut hs₂.extBut D.l2i1) hy fun h₃ e hs₃ he => ?_)
    exact hE h₃ e (fun c o c1 c2 c3 x => hs₃ _ _ c3 (hs₂.extBut _ _ c2 (hs₁.extBut _ _ c1 x))) he
theorem pyNext_zipT_held {z TI TO T i1 i2 l1 l2 : Addr} {f : Bool} {oT : Obj} {k1 k2 : Nat} {xs ys : Array Value} {x y : Value} {Q : Option Value → Shared → Prop} (D : ZipApart z TI TO i1 i2 l1 l2)
    (hz : IsZipHeld s.heap z TI TO T f) (hT : s.heap.get? T = some oT) (hTI : IsPair s.heap TI (.ref i1) (.ref i2))
    (h1 : s.heap.IsTupleIter i1 l1 k1) (h2 : s.heap.IsTupleIter i2 l2 k2) (hl1 : s.heap.IsTuple l1 xs) (hl2 : s.heap.IsTuple l2 ys) (hx : xs[k1]? = some x) (hy : ys[k2]? = some y)
    (hQ : ∀ h', IsZipHeld h' z TI TO T true → h'.IsTupleIter i1 l1 (k1 + 1) → h'.IsTupleIter i2 l2 (k2 + 1) → IsPair h' s.heap.objs.size x y → h'.objs.size = s.heap.objs.size + 1 →
      (∀ c o, c ≠ z → c ≠ i1 → c ≠ i2 → s.heap.get? c = some o → h'.get? c = some o) → Q (some (.ref s.heap.objs.size)) { s with heap := h' }) :
    wpAny (model prog w) A (pyNext (.ref z)) Q E s := by
  have hTy : s.TypeIs (.ref z) "zip" := ⟨_, hz, rfl⟩
  unfold pyNext
  exact wpAny_bind (wpAny_attempt (wpAny_callSpecial?_slot (name := Str.ofString "__next__") hTy F.slot_zip_next
    (wpAny_call_entry F.slot_zip_next hTy F.entry_zip_next
      (zipT_next_held D hz hT hTI h1 h2 hl1 hl2 hx hy fun h' a1 a3 a4 a5 a6 a7 => wpAny_pure (hQ h' a1 a3 a4 a5 a6 a7)) (F.args_zip_next_1 _))))
theorem pyNext_zipT_end_held {z TI TO T i1 i2 l1 l2 : Addr} {f : Bool} {oT : Obj} {k1 k2 : Nat} {xs ys : Array Value} {Q : Option Value → Shared → Prop} (hh : A.handled = none) (D : ZipApart z TI TO i1 i2 l1 l2)
    (hz : IsZipHeld s.heap z TI TO T f) (hT : s.heap.get? T = some oT) (hTI : IsPair s.heap TI (.ref i1) (.ref i2))
    (h1 : s.heap.IsTupleIter i1 l1 k1) (h2 : s.heap.IsTupleIter i2 l2 k2) (hl1 : s.heap.IsTuple l1 xs) (hl2 : s.heap.IsTuple l2 ys) (hend : xs[k1]? = none ∨ ys[k2]? = none)
    (hQ : ∀ h', (∀ c o, c ≠ z → c ≠ i1 → c ≠ i2 → s.heap.get? c = some o → h'.get? c = some o) → Q none { s with heap := h' }) : wpAny (model prog w) A (pyNext (.ref z)) Q E s := by
  have hTy : s.TypeIs (.ref z) "zip" := ⟨_, hz, rfl⟩
  unfold pyNext
  refine wpAny_bind (wpAny_attempt (wpAny_callSpecial?_slot (name := Str.ofString "__next__") hTy F.slot_zip_next
    (wpAny_call_entry F.slot_zip_next hTy F.entry_zip_next (zipT_end_held hh D hz hT hTI h1 h2 hl1 hl2 hend fun h' e hk he => ?_) (F.args_zip_next_1 _))))
  obtain ⟨o, ho, hc⟩ := he
  refine wpAny_bind (wpAny_isInstance (T := "StopIteration") (b := true) ⟨o, ho, hc⟩ isSubtype_stop ?_)
  exact wpAny_pure (hQ _ hk)

/-- the two sources at turn i -/
def Src (h : Heap) (i1 i2 l1 l2 : Addr) (xs ys : Array Value) (i : Nat) : Prop :=
  (h.IsListIter i1 l1 i ∧ h.IsListIter i2 l2 i ∧ h.IsList l1 xs ∧ h.IsList l2 ys) ∨ (h.IsTupleIter i1 l1 i ∧ h.IsTupleIter i2 l2 i ∧ h.IsTuple l1 xs ∧ h.IsTuple l2 ys)
def ZSt (z TI TO i1 i2 l1 l2 S : Addr) (xs ys : Array Value) (i : Nat) (h : Heap) : Prop :=
  IsPair h TI (.ref i1) (.ref i2) ∧ Src h i1 i2 l1 l2 xs ys i ∧
    ((IsZip h z TI TO .none ∧ ∃ a b, IsPair h TO a b) ∨ ∃ T f oT, IsZipHeld h z TI TO T f ∧ h.get? T = some oT ∧ T ≠ z ∧ T ≠ i1 ∧ T ≠ i2 ∧ T ≠ S)
theorem Src.keep {h h' : Heap} {i1 i2 l1 l2 : Addr} {xs ys : Array Value} {i : Nat} (x : Src h i1 i2 l1 l2 xs ys i) (k : ∀ b, b = i1 ∨ b = i2 ∨ b = l1 ∨ b = l2 → ∀ o, h.get? b = some o → h'.get? b = some o) : Src h' i1 i2 l1 l2 xs ys i := by
  rcases x with ⟨h1, h2, hl1, hl2⟩ | ⟨h1, h2, hl1, hl2⟩
  · exact .inl ⟨h1.at fun o e => k i1 (by simp) o e, h2.at fun o e => k i2 (by simp) o e, hl1.at fun o e => k l1 (by simp) o e, hl2.at fun o e => k l2 (by simp) o e⟩
  · exact .inr ⟨h1.at fun o e => k i1 (by simp) o e, h2.at fun o e => k i2 (by simp) o e, hl1.at fun o e => k l1 (by simp) o e, hl2.at fun o e => k l2 (by simp) o e⟩
theorem zst_keep {z TI TO i1 i2 l1 l2 S : Addr} {xs ys : Array Value} {i : Nat} {h h' : Heap} (st : ZSt z TI TO i1 i2 l1 l2 S xs ys i h) (k : ∀ b o, b ≠ S → h.get? b = some o → h'.get? b = some o)
    (n1 : z ≠ S) (n2 : TI ≠ S) (n3 : TO ≠ S) (n4 : i1 ≠ S) (n5 : i2 ≠ S) (n6 : l1 ≠ S) (n7 : l2 ≠ S) : ZSt z TI TO i1 i2 l1 l2 S xs ys i h' := by
  obtain ⟨hTI, hs, hz⟩ := st
  refine ⟨k _ _ n2 hTI, hs.keep fun b hb o e => k b o ?_ e, ?_⟩
  · rcases hb with rfl | rfl | rfl | rfl
    · exact n4
    · exact n5
    · exact n6
    · exact n7
  · rcases hz with ⟨hz, a, b, hTO⟩ | ⟨T, f, oT, hz, hT, r1, r2, r3, r4⟩
    · exact .inl ⟨k _ _ n1 hz, a, b, k _ _ n3 hTO⟩
    · exact .inr ⟨T, f, oT, k _ _ n1 hz, k _ _ r4 hT, r1, r2, r3, r4⟩
theorem zst_item {z TI TO i1 i2 l1 l2 S : Addr} {xs ys : Array Value} {i : Nat} {x y : Value} {Q : Option Value → Shared → Prop} (D : ZipApart z TI TO i1 i2 l1 l2) (st : ZSt z TI TO i1 i2 l1 l2 S xs ys i s.heap) (hS : S < s.heap.objs.size)
    (ex : xs[i]? = some x) (ey : ys[i]? = some y)
    (hQ : ∀ h', ZSt z TI TO i1 i2 l1 l2 S xs ys (i + 1) h' → IsPair h' s.heap.objs.size x y → h'.objs.size = s.heap.objs.size + 1 → (∀ b o, b ≠ z → b ≠ TO → b ≠ i1 → b ≠ i2 → s.heap.get? b = some o → h'.get? b = some o) → Q (some (.ref s.heap.objs.size)) { s with heap := h' }) :
    wpAny (model prog w) A (pyNext (.ref z)) Q E s := by
  obtain ⟨hTI, hs, hz⟩ := st
  have lt : ∀ {c o}, s.heap.get? c = some o → s.heap.objs.size ≠ c := fun e => Nat.ne_of_gt (Heap.lt_size e)
  rcases hs with ⟨h1, h2, hl1, hl2⟩ | ⟨h1, h2, hl1, hl2⟩
  · have n1 : s.heap.objs.size ≠ i1 := let ⟨_, e, _⟩ := h1; lt e
    have n2 : s.heap.objs.size ≠ i2 := let ⟨_, e, _⟩ := h2; lt e
    rcases hz with ⟨hz, a, b, hTO⟩ | ⟨T, f, oT, hz, hT, r1, r2, r3, r4⟩
    · refine wpAny_pyNext_zip_item D hz hTI hTO h1 h2 hl1 hl2 ex ey fun h' a1 a2 a3 a4 a5 a6 hk => ?_
      exact hQ h' ⟨hk _ _ D.TIz D.TITO D.TIi1 D.TIi2 hTI, .inl ⟨a3, a4, hl1.at fun o e => hk _ o D.l1z D.l1TO D.l1i1 D.l1i2 e, hl2.at fun o e => hk _ o D.l2z D.l2TO D.l2i1 D.l2i2 e⟩,
        .inr ⟨s.heap.objs.size, false, _, a1, a5, lt hz, n1, n2, Nat.ne_of_gt hS⟩⟩ a5 a6 fun c o c1 c2 c3 c4 e => hk c o c1 c2 c3 c4 e
    · refine wpAny_pyNext_zip_item_held D hz hT hTI h1 h2 hl1 hl2 ex ey fun h' a1 a3 a4 a5 a6 hk => ?_
      exact hQ h' ⟨hk _ _ D.TIz D.TIi1 D.TIi2 hTI, .inl ⟨a3, a4, hl1.at fun o e => hk _ o D.l1z D.l1i1 D.l1i2 e, hl2.at fun o e => hk _ o D.l2z D.l2i1 D.l2i2 e⟩,
        .inr ⟨T, true, oT, a1, hk _ _ r1 r2 r3 hT, r1, r2, r3, r4⟩⟩ a5 a6 fun c o c1 _ c3 c4 e => hk c o c1 c3 c4 e
  · have n1 : s.heap.objs.size ≠ i1 := let ⟨_, e, _⟩ := h1; lt e
    have n2 : s.heap.objs.size ≠ i2 := let ⟨_, e, _⟩ := h2; lt e
    rcases hz with ⟨hz, a, b, hTO⟩ | ⟨T, f, oT, hz, hT, r1, r2, r3, r4⟩
    · refine pyNext_zipT_item D hz hTI hTO h1 h2 hl1 hl2 ex ey fun h' a1 a2 a3 a4 a5 a6 hk => ?_
      exact hQ h' ⟨hk _ _ D.TIz D.TITO D.TIi1 D.TIi2 hTI, .inr ⟨a3, a4, hl1.at fun o e => hk _ o D.l1z D.l1TO D.l1i1 D.l1i2 e, hl2.at fun o e => hk _ o D.l2z D.l2TO D.l2i1 D.l2i2 e⟩,
        .inr ⟨s.heap.objs.size, false, _, a1, a5, lt hz, n1, n2, Nat.ne_of_gt hS⟩⟩ a5 a6 fun c o c1 c2 c3 c4 e => hk c o c1 c2 c3 c4 e
    · refine pyNext_zipT_held D hz hT hTI h1 h2 hl1 hl2 ex ey fun h' a1 a3 a4 a5 a6 hk => ?_
      exact hQ h' ⟨hk _ _ D.TIz D.TIi1 D.TIi2 hTI, .inr ⟨a3, a4, hl1.at fun o e => hk _ o D.l1z D.l1i1 D.l1i2 e, hl2.at fun o e => hk _ o D.l2z D.l2i1 D.l2i2 e⟩,
        .inr ⟨T, true, oT, a1, hk _ _ r1 r2 r3 hT, r1, r2, r3, r4⟩⟩ a5 a6 fun c o c1 _ c3 c4 e => hk c o c1 c3 c4 e
theorem zst_done {z TI TO i1 i2 l1 l2 S : Addr} {xs ys : Array Value} {i : Nat} {Q : Option Value → Shared → Prop} (hh : A.handled = none) (D : ZipApart z TI TO i1 i2 l1 l2) (st : ZSt z TI TO i1 i2 l1 l2 S xs ys i s.heap)
    (hend : xs[i]? = none ∨ ys[i]? = none) (hQ : ∀ h', (∀ b o, b ≠ z → b ≠ TO → b ≠ i1 → b ≠ i2 → s.heap.get? b = some o → h'.get? b = some o) → Q none { s with heap := h' }) : wpAny (model prog w) A (pyNext (.ref z)) Q E s := by
  obtain ⟨hTI, hs, hz⟩ := st
  rcases hs with ⟨h1, h2, hl1, hl2⟩ | ⟨h1, h2, hl1, hl2⟩
  · rcases hz with ⟨hz, a, b, hTO⟩ | ⟨T, f, oT, hz, hT, r1, r2, r3, r4⟩
    · exact wpAny_pyNext_zip_end hh D hz hTI hTO h1 h2 hl1 hl2 hend fun h' hk => hQ h' fun c o c1 c2 c3 c4 e => hk c o c1 c2 c3 c4 e
    · exact wpAny_pyNext_zip_end_held hh D hz hT hTI h1 h2 hl1 hl2 hend fun h' hk => hQ h' fun c o c1 c2 c3 c4 e => hk c o c1 c3 c4 e
  · rcases hz with ⟨hz, a, b, hTO⟩ | ⟨T, f, oT, hz, hT, r1, r2, r3, r4⟩
    · exact pyNext_zipT_end hh D hz hTI hTO h1 h2 hl1 hl2 hend fun h' hk => hQ h' fun c o c1 c2 c3 c4 e => hk c o c1 c2 c3 c4 e
    · exact pyNext_zipT_end_held hh D hz hT hTI h1 h2 hl1 hl2 hend fun h' hk => hQ h' fun c o c1 c2 c3 c4 e => hk c o c1 c3 c4 e
end
end LoreZ
namespace LoreZ
open PySem PySem.Calls PyProof.Rows PyProof.V PySem.Spec RZ
/-- the addresses as hold the pairs of xs and ys, in order, above lo -/
structure ZG (xs ys : Array Value) (lo : Addr) (h : Heap) (as : List Addr) : Prop where
  rise : as.Pairwise (· < ·)
  above : ∀ a ∈ as, lo < a
  pairs : ∀ (j : Nat) (a : Addr), as[j]? = some a → ∃ x y, xs[j]? = some x ∧ ys[j]? = some y ∧ h.get? a = some { cls := .type "tuple", data := .seq #[x, y] }
theorem ZG.there {xs ys : Array Value} {lo : Addr} {h : Heap} {as : List Addr} (g : ZG xs ys lo h as) {a : Addr} (ha : a ∈ as) : a < h.objs.size := by
  obtain ⟨j, hj⟩ := List.mem_iff_getElem?.mp ha
  obtain ⟨_, _, _, _, e⟩ := g.pairs j a hj
  exact Heap.lt_size e
theorem ab {lo a z : Addr} (h : lo < a) (m : z ≤ lo) : a ≠ z := Nat.ne_of_gt (Nat.lt_of_le_of_lt m h)
section
variable {prog : Program} {w : World} {A : Around} {s : Shared} {R : Result → Shared → Prop} {z TI TO i1 i2 l1 l2 S lo : Addr} {xs ys : Array Value}
theorem zw_loop (hh : A.handled = none) (D : ZipApart z TI TO i1 i2 l1 l2) (n1 : z ≠ S) (n2 : TI ≠ S) (n3 : TO ≠ S) (n4 : i1 ≠ S) (n5 : i2 ≠ S) (n6 : l1 ≠ S) (n7 : l2 ≠ S) (hSl : S ≤ lo) (m1 : z ≤ lo) (m3 : TO ≤ lo) (m4 : i1 ≤ lo) (m5 : i2 ≤ lo)
    (hxy : xs.size = ys.size) (hn : xs.size ≤ sizeLine) (res : Value) {h₁ : Heap}
    (hR : ∀ h' tk acc c as, (∀ b o, b ≠ S → b ≠ z → b ≠ TO → b ≠ i1 → b ≠ i2 → h₁.get? b = some o → h'.get? b = some o) → h'.get? S = some { cls := .type "list", dict := none, data := .seq acc c, slots := #[] } → as.length = xs.size → ZG xs ys lo h' as →
      acc.toList = as.map Value.ref → R (.ok (.ret res)) { s with heap := h', toks := tk }) :
    ∀ (k i : Nat) (h : Heap) (tk c : Nat) (acc : Array Value) (as : List Addr), xs.size - i = k → i ≤ xs.size → ZSt z TI TO i1 i2 l1 l2 S xs ys i h → (∀ b o, b ≠ S → b ≠ z → b ≠ TO → b ≠ i1 → b ≠ i2 → h₁.get? b = some o → h.get? b = some o) →
      h.get? S = some { cls := .type "list", dict := none, data := .seq acc c, slots := #[] } → acc.toList = as.map Value.ref → as.length = i → ZG xs ys lo h as → lo < h.objs.size →
      codeAny (model prog w) A (.builtin "list.extend.loop" ⟨[.ref S, .ref z, res], []⟩) R { s with heap := h, toks := tk } := by
  intro k
  induction k with
  | zero =>
    intro i h tk c acc as hk hi hst hkeep hS hacc hal hG hlo
    have hin : i = xs.size := by omega
    refine codeAny_builtin PySem.F.entry_extend_loop ?_
    rw [Around.under_plainId PySem.F.plain_extend_loop _]
    show wpAny _ A.in1 (pyNext (.ref z) >>= _) _ _ _
    refine wpAny_bind (zst_done (s := { s with heap := h, toks := tk }) (A := A.in1) hh D hst (.inl (Array.getElem?_eq_none (by omega))) fun h' he => ?_)
    refine wpAny_pure (hR h' tk acc c as (fun b o c0 c1 c2 c3 c4 e => he b o c1 c2 c3 c4 (hkeep b o c0 c1 c2 c3 c4 e)) (he S _ (Ne.symm n1) (Ne.symm n3) (Ne.symm n4) (Ne.symm n5) hS) (by omega) ⟨hG.rise, hG.above, fun j a hj => ?_⟩ hacc)
    obtain ⟨x, y, e1, e2, e3⟩ := hG.pairs j a hj
    have hab := hG.above a (List.mem_of_getElem? hj)
    exact ⟨x, y, e1, e2, he a _ (ab hab m1) (ab hab m3) (ab hab m4) (ab hab m5) e3⟩
  | succ k ih =>
    intro i h tk c acc as hk hi hst hkeep hS hacc hal hG hlo
    have hlt : i < xs.size := by omega
    have hlt2 : i < ys.size := by omega
    have hsz : acc.size = i := by rw [← Array.length_toList, hacc, List.length_map, hal]
    have ex := Array.getElem?_eq_getElem hlt
    have ey := Array.getElem?_eq_getElem hlt2
    refine codeAny_builtin PySem.F.entry_extend_loop ?_
    rw [Around.under_plainId PySem.F.plain_extend_loop _]
    show wpAny _ A.in1 (pyNext (.ref z) >>= _) _ _ _
    have hSlt : S < h.objs.size := Heap.lt_size hS
    refine wpAny_bind (zst_item (s := { s with heap := h, toks := tk }) (S := S) D hst hSlt ex ey fun h' hst' ht hz hkp => ?_)
    dsimp only at ht hz hkp ⊢
    have hS' := hkp S _ (Ne.symm n1) (Ne.symm n3) (Ne.symm n4) (Ne.symm n5) hS
    have up : ∀ b o, b ≠ S → h'.get? b = some o → (h'.update S (Obj.mapSeq (·.push (Value.ref h.objs.size)))).get? b = some o := fun b o hb e => (Heap.get?_update_other _ _ (Ne.symm hb)).trans e
    have ht' : h'.get? h.objs.size = some { cls := .type "tuple", data := .seq #[xs[i], ys[i]] } := ht
    show wpAny _ A.in1 (updateSeq S (·.push (Value.ref h.objs.size)) >>= _) _ _ _
    refine wpAny_bind ?_
    refine wpAny_updateSeq hS' rfl (wpAny_pure ⟨plainId_quiet PySem.F.plain_extend_loop _, ih (i + 1) _ tk _ (acc.push (Value.ref h.objs.size)) (as ++ [h.objs.size]) (by omega) hlt (zst_keep hst' up n1 n2 n3 n4 n5 n6 n7)
      (fun b o c0 c1 c2 c3 c4 e => up b o c0 (hkp b o c1 c2 c3 c4 (hkeep b o c0 c1 c2 c3 c4 e))) (Heap.get?_update_self _ hS' rfl) (by rw [Array.toList_push, hacc, List.map_append]; rfl) (by rw [List.length_append, hal]; rfl) ⟨?_, ?_, ?_⟩ ?_⟩) (by rw [hsz]; omega) (by show (acc.push (Value.ref h.objs.size)).size ≤ sizeLine + 1; rw [Array.size_push, hsz]; omega)
    · refine List.pairwise_append.mpr ⟨hG.rise, List.pairwise_singleton _ _, fun a ha b hb => ?_⟩
      rw [List.mem_singleton.mp hb]
      exact hG.there ha
    · intro a ha
      rcases List.mem_append.mp ha with ha | ha
      · exact hG.above a ha
      · rw [List.mem_singleton.mp ha]; exact hlo
    · intro j b hj
      rcases Nat.lt_trichotomy j as.length with h1 | h1 | h1
      · rw [List.getElem?_append_left h1] at hj
        obtain ⟨x, y, e1, e2, e3⟩ := hG.pairs j b hj
        have hb := hG.above b (List.mem_of_getElem? hj)
        exact ⟨x, y, e1, e2, up b _ (ab hb hSl) (hkp b _ (ab hb m1) (ab hb m3) (ab hb m4) (ab hb m5) e3)⟩
      · subst h1
        have hb : h.objs.size = b := by simpa using hj
        subst hb
        exact ⟨xs[i], ys[i], by rw [hal]; exact ex, by rw [hal]; exact ey, up _ _ (Nat.ne_of_gt hSlt) ht'⟩
      · have hnone : (as ++ [h.objs.size])[j]? = none := List.getElem?_eq_none (by rw [List.length_append, List.length_singleton]; omega)
        rw [hnone] at hj; cases hj
    · have e : (h'.update S (Obj.mapSeq (·.push (Value.ref h.objs.size)))).get? h.objs.size = _ := up _ _ (Nat.ne_of_gt hSlt) ht'
      exact Nat.lt_trans hlo (Heap.lt_size e)
/-- list.extend of a zip -/
theorem zw_extend (hh : A.handled = none) (D : ZipApart z TI TO i1 i2 l1 l2) (n1 : z ≠ S) (n2 : TI ≠ S) (n3 : TO ≠ S) (n4 : i1 ≠ S) (n5 : i2 ≠ S) (n6 : l1 ≠ S) (n7 : l2 ≠ S) (hSl : S ≤ lo) (m1 : z ≤ lo) (m3 : TO ≤ lo) (m4 : i1 ≤ lo) (m5 : i2 ≤ lo) (hlo : lo < s.heap.objs.size)
    (hxy : xs.size = ys.size) (hn : xs.size ≤ sizeLine) (res : Value) (c₀ : Nat) (hz : IsZip s.heap z TI TO .none) (hst : ZSt z TI TO i1 i2 l1 l2 S xs ys 0 s.heap) (hS : s.heap.get? S = some { cls := .type "list", data := .seq #[] c₀ })
    (hR : ∀ h' tk acc c as, (∀ b o, b ≠ S → b ≠ z → b ≠ TO → b ≠ i1 → b ≠ i2 → s.heap.get? b = some o → h'.get? b = some o) → h'.get? S = some { cls := .type "list", dict := none, data := .seq acc c, slots := #[] } → as.length = xs.size → ZG xs ys lo h' as →
      acc.toList = as.map Value.ref → R (.ok (.ret res)) { s with heap := h', toks := tk }) :
    wpAny (model prog w) A.in1 (Builtin.List.listExtendWith (.ref S) (.ref z) res)
      (fun fin s' => match fin with | .done f => R (.ok f) s' | .again c' => c'.quiet = true ∧ codeAny (model prog w) A c' R s') (fun e s' => R (.error e) s') s := by
  have hT : s.TypeIs (.ref z) "zip" := ⟨_, hz, rfl⟩
  unfold Builtin.List.listExtendWith
  refine wpAny_bind (wpAny_typeOf hT ?_)
  have h1 : Builtin.List.listSameRef (.ref S) (.ref z) = false := by simp [Builtin.List.listSameRef, Ne.symm n1]
  have h2 : (Value.type "zip" == Value.type "list") = false := by decide
  have h3 : (Value.type "zip" == Value.type "tuple") = false := by decide
  simp only [h1, h2, h3, Bool.or_false, Bool.false_eq_true, if_false]
  refine wpAny_bind (wpAny_pyIter_zip hz ?_)
  refine wpAny_bind (wpAny_holding ?_)
  unfold Builtin.List.listLengthHint
  refine wpAny_bind (wpAny_specialOf hT zip_no_len ?_)
  show wpAny _ A.in1 (specialOf (Value.ref z) (Str.ofString "__length_hint__") >>= _) _ _ _
  refine wpAny_bind (wpAny_specialOf hT zip_no_hint ?_)
  refine wpAny_pure ?_
  show wpAny _ A.in1 (rule "list.extend.makes-room" >>= fun _ => Builtin.List.listTouch (.ref S) >>= fun _ =>
    again (.builtin "list.extend.loop" ⟨[.ref S, .ref z, res], []⟩)) _ _ _
  refine wpAny_bind (wpAny_rule ?_)
  refine wpAny_bind ?_
  show wpAny _ A.in1 (updateSeq S (·.push .none) >>= fun _ => updateSeq S (·.pop)) _ _ _
  refine wpAny_bind (wpAny_updateSeq hS rfl ?_)
  have hS₂ := Heap.get?_update_self (Obj.mapSeq (·.push Value.none)) hS rfl
  refine wpAny_updateSeq (hz := by seq_fits) hS₂ rfl ?_
  have hS₃ := Heap.get?_update_self (Obj.mapSeq (·.pop)) hS₂ rfl
  have oth : ∀ b o, b ≠ S → s.heap.get? b = some o → ((s.heap.update S (Obj.mapSeq (·.push Value.none))).update S (Obj.mapSeq (·.pop))).get? b = some o :=
    fun b o hb e => (Heap.get?_update_other _ _ (Ne.symm hb)).trans ((Heap.get?_update_other _ _ (Ne.symm hb)).trans e)
  refine wpAny_pure ⟨plainId_quiet PySem.F.plain_extend_loop _, zw_loop (s := s) (h₁ := s.heap) (lo := lo) hh D n1 n2 n3 n4 n5 n6 n7 hSl m1 m3 m4 m5 hxy hn res hR xs.size 0 _ s.toks _ #[] [] (Nat.sub_zero _) (Nat.zero_le _) (zst_keep hst oth n1 n2 n3 n4 n5 n6 n7)
    (fun b o c0 _ _ _ _ e => oth b o c0 e) hS₃ rfl rfl ⟨List.Pairwise.nil, (fun _ ha => nomatch ha), (fun j a hj => by simp at hj)⟩ ?_⟩
  have e : (s.heap.update S (Obj.mapSeq (·.push Value.none))).objs.size = s.heap.objs.size := by first | exact Heap.size_update .. | simp
  have e2 : ((s.heap.update S (Obj.mapSeq (·.push Value.none))).update S (Obj.mapSeq (·.pop))).objs.size = s.heap.objs.size := by first | (rw [Heap.size_update, e]) | simp
  rw [e2]
  exact hlo
theorem ZG.low {lo' : Addr} {h : Heap} {as : List Addr} (g : ZG xs ys lo h as) (hl : lo' ≤ lo) : ZG xs ys lo' h as := ⟨g.rise, fun a ha => Nat.lt_of_le_of_lt hl (g.above a ha), g.pairs⟩
theorem zw_call {E : Value → Shared → Prop} {Q : Value → Shared → Prop} (hh : A.handled = none) (D : ZipApart z TI TO i1 i2 l1 l2) (hz : IsZip s.heap z TI TO .none) (hTI : IsPair s.heap TI (.ref i1) (.ref i2)) (hTO : ∃ a b, IsPair s.heap TO a b) (hs : Src s.heap i1 i2 l1 l2 xs ys 0)
    (hxy : xs.size = ys.size) (hn : xs.size ≤ sizeLine)
    (hQ : ∀ h' tk acc c as, (∀ b o, b ≠ z → b ≠ TO → b ≠ i1 → b ≠ i2 → s.heap.get? b = some o → h'.get? b = some o) → h'.get? s.heap.objs.size = some { cls := .type "list", dict := none, data := .seq acc c, slots := #[] } → as.length = xs.size → ZG xs ys s.heap.objs.size h' as →
      acc.toList = as.map Value.ref → Q (.ref s.heap.objs.size) { s with heap := h', toks := tk }) :
    wpAny (model prog w) A (call (.type "list") [.ref z]) Q E s := by
  refine callType_codes (Q₁ := fun obj s₁ => obj = .ref s.heap.objs.size ∧ s₁ = { s with heap := s.heap.push { cls := .type "list", data := .seq #[] } }) PySem.F.called_list (PySem.F.typeCall_list_1 _) PySem.F.entry_list_init
    (code_list_new _ ⟨rfl, rfl⟩) fun obj s₁ h₁ => ?_
  obtain ⟨rfl, rfl⟩ := h₁
  have hS : (s.heap.push { cls := .type "list", data := .seq #[] }).get? s.heap.objs.size = some { cls := .type "list", data := .seq #[] } := Heap.get?_push_size _ rfl
  refine ⟨⟨_, hS, rfl⟩, PySem.F.args_list_init_2 _ _, ?_⟩
  obtain ⟨a, b, hTO⟩ := hTO
  have lz := Heap.lt_size hz
  have lTI := Heap.lt_size hTI
  have lTO := Heap.lt_size hTO
  have lsrc : i1 < s.heap.objs.size ∧ i2 < s.heap.objs.size ∧ l1 < s.heap.objs.size ∧ l2 < s.heap.objs.size := by
    rcases hs with ⟨⟨_, e1, _⟩, ⟨_, e2, _⟩, ⟨_, e3, _⟩, ⟨_, e4, _⟩⟩ | ⟨⟨_, e1, _⟩, ⟨_, e2, _⟩, ⟨_, e3, _⟩, ⟨_, e4, _⟩⟩ <;>
      exact ⟨Heap.lt_size e1, Heap.lt_size e2, Heap.lt_size e3, Heap.lt_size e4⟩
  obtain ⟨li1, li2, ll1, ll2⟩ := lsrc
  have up : ∀ b o, s.heap.get? b = some o → (s.heap.push { cls := .type "list", data := .seq #[] }).get? b = some o := fun b o e => Heap.get?_push_of_some _ e
  show wpAny _ _ (do let old ← Builtin.List.listItems (.ref s.heap.objs.size); Builtin.List.listUpdate (.ref s.heap.objs.size) (fun _ => #[]); letGo old.toList.reverse; Builtin.List.listExtendWith (.ref s.heap.objs.size) (.ref z) .none) _ _ _
  refine wpAny_bind ?_
  unfold Builtin.List.listItems
  refine wpAny_bind (wpAny_seqItems hS rfl (wpAny_pure ?_))
  show wpAny _ _ (updateSeq s.heap.objs.size (fun _ => #[]) >>= fun _ => letGo (#[] : Array Value).toList.reverse >>= fun _ => Builtin.List.listExtendWith (.ref s.heap.objs.size) (.ref z) .none) _ _ _
  refine wpAny_bind (wpAny_updateSeq hS rfl ?_)
  have hS₂ := Heap.get?_update_self (Obj.mapSeq (fun _ => (#[] : Array Value))) hS rfl
  have oth : ∀ b o, s.heap.get? b = some o → ((s.heap.push { cls := .type "list", data := .seq #[] }).update s.heap.objs.size (Obj.mapSeq (fun _ => (#[] : Array Value)))).get? b = some o :=
    fun b o e => (Heap.get?_update_other _ _ (Nat.ne_of_gt (Heap.lt_size e))).trans (up b o e)
  refine wpAny_bind (wpAny_letGo ?_)
  refine zw_extend (A := A.in1) (lo := s.heap.objs.size) (s := { s with heap := (s.heap.push { cls := .type "list", data := .seq #[] }).update s.heap.objs.size (Obj.mapSeq (fun _ => (#[] : Array Value))) }) hh D (Nat.ne_of_lt lz) (Nat.ne_of_lt lTI) (Nat.ne_of_lt lTO) (Nat.ne_of_lt li1) (Nat.ne_of_lt li2) (Nat.ne_of_lt ll1) (Nat.ne_of_lt ll2) (Nat.le_refl _) (Nat.le_of_lt lz) (Nat.le_of_lt lTO) (Nat.le_of_lt li1) (Nat.le_of_lt li2) (Heap.lt_size hS₂)
    hxy hn .none _ (oth _ _ hz) ⟨oth _ _ hTI, hs.keep fun b _ o e => oth b o e, .inl ⟨oth _ _ hz, a, b, oth _ _ hTO⟩⟩ hS₂ (fun h' tk acc c as hk hS' hl hG hacc => ?_)
  exact ⟨rfl, hQ h' tk acc c as (fun b o c1 c2 c3 c4 e => hk b o (Nat.ne_of_lt (Heap.lt_size e)) c1 c2 c3 c4 (oth b o e)) hS' hl hG hacc⟩
end
section
open L2
theorem vals_get2 {xs : List V} {its : List Value} (r : Vals xs its) {j : Nat} {u : Value} (h : its[j]? = some u) : ∃ x, xs[j]? = some x ∧ RelV x u := by
  cases e : xs[j]? with
  | none =>
    rw [r.none_of e] at h
    cases h
  | some x =>
    obtain ⟨u', e', rx⟩ := r.get e
    rw [h] at e'
    cases e'
    exact ⟨x, rfl, rx⟩
/-- the tuples tracked at their addresses -/
def putZ (f : Addr → HO) (H : Hp) (as : List Addr) : Hp := fun b => if b ∈ as then some (f b) else H b
variable {X : Cx} {pins : List (Addr × Obj)} {σ : L2.St} {H : Hp} {s : Shared}
theorem zip_laid {h' : Heap} {tk : Nat} {xs ys : List V} {its its2 : List Value} {acc : Array Value} {c : Nat} {as : List Addr} (I : Inv X pins σ H s) (rx : Vals xs its) (ry : Vals ys its2) (hz : xs.length ≤ sizeLine)
    (hk : ∀ b o, s.heap.get? b = some o → h'.get? b = some o) {S : Addr} (hSs : s.heap.objs.size ≤ S) (hS : h'.get? S = some { cls := .type "list", dict := none, data := .seq acc c, slots := #[] }) (hl : as.length = its.length) (hG : ZG its.toArray its2.toArray S h' as) (hacc : acc.toList = as.map Value.ref) :
    ∃ H' : Hp, Same H H' ∧ H S = none ∧ (∀ t ∈ as, H t = none) ∧ S ∉ as ∧ as.Nodup ∧ H' S = some (.lst (as.map V.ref)) ∧ (∀ (j : Nat) (t : Addr), as[j]? = some t → ∃ x y, xs[j]? = some x ∧ ys[j]? = some y ∧ H' t = some (.tup [x, y])) ∧ Inv X pins σ H' { s with heap := h', toks := tk } := by
  have hSn : S ∉ as := fun z => Nat.lt_irrefl _ (hG.above _ z)
  have nd : as.Nodup := List.Pairwise.imp (fun {a b} (h : a < b) => Nat.ne_of_lt h) hG.rise
  have new : ∀ t ∈ as, H t = none := fun t ht => I.hok.fresh (Nat.le_trans hSs (Nat.le_of_lt (hG.above t ht)))
  have newS : H S = none := I.hok.fresh hSs
  have pr : ∀ t ∈ as, ∃ x y u v j, as[j]? = some t ∧ xs[j]? = some x ∧ ys[j]? = some y ∧ RelV x u ∧ RelV y v ∧ h'.get? t = some { cls := .type "tuple", data := .seq #[u, v] } := fun t ht => by
    obtain ⟨j, hj⟩ := List.mem_iff_getElem?.mp ht
    obtain ⟨u, v, e1, e2, e3⟩ := hG.pairs j t hj
    obtain ⟨x, f1, r1⟩ := vals_get2 rx (by simpa using e1)
    obtain ⟨y, f2, r2⟩ := vals_get2 ry (by simpa using e2)
    exact ⟨x, y, u, v, j, hj, f1, f2, r1, r2, e3⟩
  let f : Addr → HO := fun t => match as.idxOf? t with
    | some j => .tup [xs.getD j .non, ys.getD j .non]
    | none => .tup []
  have ft : ∀ (j : Nat) (t : Addr), as[j]? = some t → ∀ x y, xs[j]? = some x → ys[j]? = some y → f t = .tup [x, y] := fun j t hj x y hx hy => by
    have e : as.idxOf? t = some j := by
      rw [List.idxOf?_eq_some_iff]
      obtain ⟨hlt, e⟩ := List.getElem?_eq_some_iff.mp hj
      refine ⟨hlt, by simpa using e, fun k hk => ?_⟩
      intro z
      have z' : as[k] = as[j] := by rw [e]; simpa using z
      have := (List.getElem_inj nd).mp z'
      omega
    show (match as.idxOf? t with | some j => HO.tup [xs.getD j .non, ys.getD j .non] | none => .tup []) = _
    rw [e]
    simp [List.getD, hx, hy]
  have eS : putZ f (upd H S (.lst (as.map V.ref))) as S = some (.lst (as.map V.ref)) := by
    unfold putZ
    rw [if_neg hSn, upd_same]
  have off : ∀ b, b ∉ as → b ≠ S → putZ f (upd H S (.lst (as.map V.ref))) as b = H b := fun b h1 h2 => by
    unfold putZ
    rw [if_neg h1, upd_ne h2]
  have on : ∀ b, b ∈ as → putZ f (upd H S (.lst (as.map V.ref))) as b = some (f b) := fun b h1 => by
    unfold putZ
    rw [if_pos h1]
  have low : ∀ b o, s.heap.get? b = some o → b ∉ as ∧ b ≠ S := fun b o e => ⟨fun z => absurd (Heap.lt_size e) (Nat.not_lt.mpr (Nat.le_trans hSs (Nat.le_of_lt (hG.above b z)))), Nat.ne_of_lt (Nat.lt_of_lt_of_le (Heap.lt_size e) hSs)⟩
  have kp : ∀ b u, H b = some u → putZ f (upd H S (.lst (as.map V.ref))) as b = some u := fun b u e => by
    rw [off b (fun z => by rw [new b z] at e; cases e) (fun z => by rw [z, newS] at e; cases e)]
    exact e
  refine ⟨putZ f (upd H S (.lst (as.map V.ref))) as, kp, newS, new, hSn, nd, eS, fun j t hj => ?_, ?_⟩
  · obtain ⟨u, v, e1, e2, e3⟩ := hG.pairs j t hj
    obtain ⟨x, f1, r1⟩ := vals_get2 rx (by simpa using e1)
    obtain ⟨y, f2, r2⟩ := vals_get2 ry (by simpa using e2)
    exact ⟨x, y, f1, f2, by rw [on t (List.mem_of_getElem? hj), ft j t hj x y f1 f2]⟩
  · refine I.call' (ch := []) rfl ⟨fun b o q _ _ _ => hk b o q, fun b o q _ _ _ => ⟨o.slots, hk b o q⟩, fun b o q n _ => ?_, fun b o q _ => ⟨o, hk b o q⟩, fun b xs q => kp b _ q, fun b o u q => kp b _ q, fun b ps q => ⟨#[], by rw [kp b _ q]; simp⟩⟩ (fun b u q => ?_) I.bare fun b z => by simp at z
    · obtain ⟨z1, z2⟩ := low b o q
      rw [off b z1 z2]
      exact n
    · by_cases hb : b ∈ as
      · obtain ⟨x, y, uu, vv, j, hj, f1, f2, r1, r2, e3⟩ := pr b hb
        rw [on b hb, ft j b hj x y f1 f2] at q
        cases q
        exact ⟨by show 2 ≤ sizeLine; decide, [uu, vv], .cons r1 (.cons r2 .nil), ⟨_, e3, rfl, _, rfl⟩⟩
      · by_cases hb2 : b = S
        · rw [hb2] at q ⊢
          rw [eS] at q
          cases q
          refine ⟨by rw [List.length_map, hl, ← rx.length]; exact hz, acc.toList, c, by rw [hacc]; exact LiI.vals_refs as, ?_⟩
          rw [Array.toArray_toList]
          exact hS
        · rw [off b hb hb2] at q
          exact (I.hok b u q).stay (fun d v _ y => hk d v y) (fun d y => kp d _ y) fun d xs y => kp d _ y
/-- list(zip(a, b)): two lists or two tuples of one length -/
def tListZip (K : PySem.W.Frag) (ta : TA) : TE := fun σ H Q => ta σ H fun vs H1 => ∃ (a b : Addr) (xs ys : List V), vs = [.ref a, .ref b] ∧ ((SqL K H1 a xs ∧ SqL K H1 b ys) ∨ (SqT K H1 a xs ∧ SqT K H1 b ys)) ∧ xs.length = ys.length ∧
  ∀ (H' : Hp) (p : Addr) (ts : List Addr), Same H1 H' → H1 p = none → (∀ t ∈ ts, H1 t = none) → p ∉ ts → ts.Nodup → ts.length = xs.length → H' p = some (.lst (ts.map V.ref)) → (∀ (j : Nat) (t : Addr), ts[j]? = some t → ∃ x y, xs[j]? = some x ∧ ys[j]? = some y ∧ H' t = some (.tup [x, y])) → Q (.ref p) H'
theorem pe_listZip {e e2 : Expr} {ta : TA} {p p2 pos pos2 : Pos} (hc : X.calm = true) (hg : Gl X "list") (hm : X.mg "list" = none) (hg2 : Gl X "zip") (hm2 : X.mg "zip" = none) (ha : PA X [e, e2] ta)
    (hs : starEach [e, e2] X.env = (false, eval e X.env) :: starEach [e2] X.env := by rfl) (hpl : (backTo pos2 (starEach [e2] X.env)).any (·.1) = false := by rfl)
    (hs1 : starEach [.Call (.Name "zip" p2) [e, e2] [] pos2] X.env = (false, eval (.Call (.Name "zip" p2) [e, e2] [] pos2) X.env) :: starEach [] X.env := by rfl) :
    PE X (.Call (.Name "list" p) [.Call (.Name "zip" p2) [e, e2] [] pos2] [] pos) (tListZip X.K ta) := by
  refine ⟨fun pins s σ H Q I h => ?_⟩
  refine wpAny_Call_Name_kw (ld_blt I hg hm PyProof.Rows.boot_list ?_)
  refine PyProof.Rows.callWith_type1 ?_ hs1 rfl
  rw [hs1]
  show wpAny _ _ (spliced ((false, eval (.Call (.Name "zip" p2) [e, e2] [] pos2) X.env) :: backTo pos (starEach [] X.env))) _ _ s
  refine Calls.spliced_cons ?_
  refine Call_ (ld_blt I hg2 hm2 PyProof.Rows.boot_zip (PyProof.Rows.callWith_type1 (thn (ha.run pos2 pins s σ H _ I h) fun us s1 ⟨vs, H1, I1, r1, q1⟩ => ?_) hs hpl))
  obtain ⟨a, b, xs, ys, ex, q1, hlen, hQ⟩ := q1
  subst ex
  cases r1 with
  | cons r rr =>
    cases rr with
    | cons r' rr =>
      cases rr
      cases r
      cases r'
      have fin : ∀ (its its2 : List Value) (h1 : Heap), Vals xs its → Vals ys its2 → xs.length ≤ sizeLine → IsZip h1 (s1.heap.objs.size + 4) (s1.heap.objs.size + 2) (s1.heap.objs.size + 3) .none → IsPair h1 (s1.heap.objs.size + 2) (.ref s1.heap.objs.size) (.ref (s1.heap.objs.size + 1)) →
          IsPair h1 (s1.heap.objs.size + 3) .none .none → Src h1 s1.heap.objs.size (s1.heap.objs.size + 1) a b its.toArray its2.toArray 0 → h1.objs.size = s1.heap.objs.size + 5 → (∀ c o, s1.heap.get? c = some o → h1.get? c = some o) → a < s1.heap.objs.size → b < s1.heap.objs.size →
          wpAny (model X.prog X.w) X.A (spliced (backTo pos (starEach [] X.env))) (fun vs s_1 => wpAny (model X.prog X.w) X.A (call (.type "list") (.ref (s1.heap.objs.size + 4) :: vs)) (EP X pins σ Q) X.xe s_1) X.xe { s1 with heap := h1 } := by
        intro its its2 h1 rx ry hz hzip hTI hTO hsrc hsz hk la lb
        refine Calls.spliced_nil ?_
        have D := PySem.W.ktu_apart s1.heap.objs.size a b la lb
        have hxy : its.toArray.size = its2.toArray.size := by
          simp only [List.size_toArray]
          rw [← rx.length, ← ry.length, hlen]
        have e1 : its.toArray.size = its.length := by simp
        refine zw_call (s := { s1 with heap := h1 }) (I1.ok.hd hc) D hzip hTI ⟨_, _, hTO⟩ hsrc hxy (by rw [e1, ← rx.length]; exact hz) fun h' tk acc c as hk' hS hl hG hacc => ?_
        have sz : s1.heap.objs.size ≤ ({ s1 with heap := h1 } : Shared).heap.objs.size := by
          show s1.heap.objs.size ≤ h1.objs.size
          rw [hsz]
          exact Nat.le_add_right _ _
        have kk : ∀ b o, s1.heap.get? b = some o → h'.get? b = some o := fun b o e => by
          have lt := Heap.lt_size e
          exact hk' b o (Nat.ne_of_lt (Nat.lt_of_lt_of_le lt (Nat.le_add_right _ _))) (Nat.ne_of_lt (Nat.lt_of_lt_of_le lt (Nat.le_add_right _ _))) (Nat.ne_of_lt lt) (Nat.ne_of_lt (Nat.lt_of_lt_of_le lt (Nat.le_add_right _ _))) (hk b o e)
        obtain ⟨H', k1, k2, k3, k4, k5, k6, k7, J⟩ := zip_laid (tk := tk) I1 rx ry hz kk sz hS (by rw [hl]; exact e1) hG hacc
        exact ⟨.ref _, H', J, rfl, hQ H' _ as k1 k2 k3 k4 k5 (by rw [hl, e1, rx.length]) k6 k7⟩
      rcases q1 with ⟨hqx, hqy⟩ | ⟨hqx, hqy⟩
      · obtain ⟨its, rv, p1, hz⟩ := I1.list hqx
        obtain ⟨its2, rv2, p2, _⟩ := I1.list hqy
        exact call_zip_2 p1.isList p2.isList fun h' hz' hTI hTO h1 h2 hsz hk => fin its its2 h' rv rv2 hz hz' hTI hTO (.inl ⟨h1, h2, p1.isList.at fun o e => hk _ o e, p2.isList.at fun o e => hk _ o e⟩) hsz hk p1.lt p2.lt
      · obtain ⟨its, rv, p1, hz⟩ := I1.tuple hqx
        obtain ⟨its2, rv2, p2, _⟩ := I1.tuple hqy
        obtain ⟨o1, ho1, _⟩ := id p1
        obtain ⟨o2, ho2, _⟩ := id p2
        have t1 : s1.heap.IsTuple a its.toArray := p1
        have t2 : s1.heap.IsTuple b its2.toArray := p2
        exact call_zipT t1 t2 fun h' hz' hTI hTO h1 h2 hsz hk => fin its its2 h' rv rv2 hz hz' hTI hTO (.inr ⟨h1, h2, t1.at fun o e => hk _ o e, t2.at fun o e => hk _ o e⟩) hsz hk (Heap.lt_size ho1) (Heap.lt_size ho2)
end
end LoreZ
namespace Lore
open PySem PySem.Spec PyProof.Rows L2
section
variable {X : Cx}
/-- xs[i], read for xs[i] op= e -/
theorem get_list : PGet X (rIxL X.K) := by
  intro pins s σ H o i ov iv Q I ro ri h
  obtain ⟨p, xs, k, z, rfl, rfl, hq, he, q⟩ := h
  cases ro
  obtain ⟨t, rfl⟩ := ri
  obtain ⟨its, r, pl, hz⟩ := I.list hq
  obtain ⟨j, h1, h2, h3, h4, h5⟩ := atI_get he
  obtain ⟨w, ew, rw'⟩ := r.get h2
  have hl := r.length
  have hn := line63
  have fin : EP X pins σ Q w s := ⟨z, H, I, rw', q⟩
  by_cases h0 : 0 ≤ k
  · have hj : k.toNat = j := by
      rw [seqIndex_of h0 h5] at h1
      exact Option.some.inj h1
    exact wpAny_getItem_list pl.isList h0 (by omega) (by rw [hj]; simpa using ew) fin
  · have hj : (k + (its.toArray.size : Int)).toNat = j := by
      rw [seqIndex_neg (by omega) h4] at h1
      rw [List.size_toArray, ← hl]
      exact Option.some.inj h1
    exact wpAny_getItem_list_neg pl.isList (by omega) (by rw [List.size_toArray] <;> omega) (by omega) (by rw [hj]; simpa using ew) fin
end
/-- behind a statement J holds: the rest from there on -/
theorem cutR {t u : TS} {D : Ends} {σ : L2.St} {H : Hp} (J : L2.St → Hp → Prop) (rest : ∀ σ' H', J σ' H' → u D σ' H') (first : ∀ N : L2.St → Hp → Prop, (∀ σ' H', J σ' H' → N σ' H') → t { D with nx := N } σ H) : tSeq t u D σ H := first (u D) rest
theorem cutR2 {t1 t2 u : TS} {D : Ends} {σ : L2.St} {H : Hp} (J : L2.St → Hp → Prop) (rest : ∀ σ' H', J σ' H' → u D σ' H') (first : ∀ N : L2.St → Hp → Prop, (∀ σ' H', J σ' H' → N σ' H') → t1 { D with nx := t2 { D with nx := N } } σ H) : tSeq t1 (tSeq t2 u) D σ H := first (u D) rest
/-- all but p is as it was -/
def SameBut (p : Addr) (H H' : Hp) : Prop := ∀ b o, H b = some o → b ≠ p → H' b = some o
theorem SameBut.refl (p : Addr) (H : Hp) : SameBut p H H := fun _ _ h _ => h
theorem SameBut.trans {p : Addr} {H H1 H2 : Hp} (a : SameBut p H H1) (b : SameBut p H1 H2) : SameBut p H H2 := fun c o h n => b c o (a c o h n) n
theorem same_but {p : Addr} {H H' : Hp} (a : Same H H') : SameBut p H H' := fun b o h _ => a b o h
theorem SameBut.upd {p : Addr} {H H' : Hp} {o : HO} (a : SameBut p H H') : SameBut p H (upd H' p o) := fun b u h n => by
  rw [upd_ne n]
  exact a b u h n
theorem SameBut.new {p q : Addr} {H H' : Hp} {o : HO} (a : SameBut p H H') (h : H' q = none) (hp : ∃ u, H' p = some u) : SameBut p H (L2.upd H' q o) := fun b u hb n => by
  have e := a b u hb n
  rw [upd_ne (ne_of_none e h)]
  exact e
/-- a bag at p, its cells at c -/
structure BagAt (H : Hp) (p c : Addr) : Prop where
  at_ : ∃ z s n : Int, H p = some (.lst [.int z, .int s, .int n, .ref c]) ∧ 0 ≤ z ∧ 0 ≤ s ∧ s < 2147483647 ∧ 0 ≤ n
  cells : ∃ ns : List Int, H c = some (.lst (ns.map V.int)) ∧ (∀ x ∈ ns, 0 ≤ x) ∧ ns.length ≤ 63
theorem BagAt.ne {H : Hp} {p c : Addr} (b : BagAt H p c) : p ≠ c := by
  obtain ⟨⟨z, s, n, h1, _⟩, ns, h2, _⟩ := b
  intro e
  subst e
  rw [h1] at h2
  have h3 := HO.lst.inj (Option.some.inj h2)
  match ns, h3 with
  | [_, _, _, _], h3 => simp at h3
theorem BagAt.same {H H' : Hp} {p c : Addr} (b : BagAt H p c) (s : Same H H') : BagAt H' p c := by
  obtain ⟨⟨z, u, n, h1, q⟩, ns, h2, r⟩ := b
  exact ⟨⟨z, u, n, s _ _ h1, q⟩, ns, s _ _ h2, r⟩
/-- take(bag, many): an int from 0 on below many, the bag a bag still -/
def spTake : Sp := fun vs H Q _ => ∃ (p c : Addr) (m : Int), vs = [.ref p, .int m] ∧ BagAt H p c ∧ 0 < m ∧ m < 1073741824 ∧
  ∀ (v : Int) (H' : Hp), 0 ≤ v → v < m → BagAt H' p c → SameBut p H H' → Q (.int v) H'
theorem cut_head {ns : List Int} {n : Int} (hn : ∀ x ∈ ns, 0 ≤ x) : ∃ k : Int, 0 ≤ k ∧ atI (cutV (ns.map V.int) (some n) none ++ [V.int 0]) 0 = some (.int k) := by
  have key : ∀ l : List V, (∀ v ∈ l, ∃ k : Int, v = .int k ∧ 0 ≤ k) → ∃ k : Int, 0 ≤ k ∧ atI (l ++ [V.int 0]) 0 = some (.int k) := by
    intro l hl
    cases l with
    | nil => exact ⟨0, by decide, rfl⟩
    | cons v r =>
      obtain ⟨k, e, hk⟩ := hl v List.mem_cons_self
      subst e
      refine ⟨k, hk, ?_⟩
      exact atI_nat (j := 0) (by simp)
  refine key _ fun v hv => ?_
  have hm : v ∈ ns.map V.int := List.mem_of_mem_drop (List.mem_of_mem_take hv)
  obtain ⟨k, hk, e⟩ := List.mem_map.mp hm
  exact ⟨k, e.symm, hn k hk⟩
end Lore
namespace Lore
open PySem PySem.Spec PyProof.Rows L2
/-- a def that may be called by its name -/
structure Cal (P : Program) (w : World) (K : PySem.W.Frag) (mg : Str → Option Value) (base : Heap) (CX : CXT) (k : Nat) (x : Str) (ps : List Str) (sp : Sp) where
  f : Addr
  fd : FuncData
  G : FnOk P w K mg base CX k f fd ps sp
  gl : mg x = some (.ref f)
  kp : PySem.W.keepIn K (.ref f) = true
  b : Binds K fd ps []
theorem pe_cal {X : Cx} {CX : CXT} {k : Nat} {x : Str} {ps : List Str} {sp : Sp} {E : XK} {e : Expr} {es : List Expr} {ta : TA} {p pos : Pos} (c : Cal X.prog X.w X.K X.mg X.base CX k x ps sp) (hr : Room k X.A) (hx : Passes CX X E) (ha : PA X (e :: es) ta) (hg : Gl X x := by rfl)
    (hdb : (x == ("__debug__" : Str)) = false := by decide) (he : starEach (e :: es) X.env = (false, eval e X.env) :: starEach es X.env := by rfl) (hpl : (backTo pos (starEach es X.env)).any (·.1) = false := by rfl) :
    PE X (.Call (.Name x p) (e :: es) [] pos) (tCall sp [] E ta) := pe_call c.G hr hg c.gl c.kp c.b .nil hx ha hdb he hpl
end Lore
namespace L2
open PySem PySem.Spec PyProof.Rows
theorem Same.seqT {K : PySem.W.Frag} {H H' : Hp} {a : Addr} {xs : List V} (s : Same H H') (h : SqT K H a xs) : SqT K H' a xs := by
  rcases h with (h | ⟨o, h⟩) | h
  · exact .inl (.inl (s _ _ h))
  · exact .inl (.inr ⟨o, s _ _ h⟩)
  · exact .inr h
mutual
theorem Dp.same {K : PySem.W.Frag} {H H' : Hp} (s : Same H H') : ∀ {v : V} {d : PyData}, Dp K H v d → Dp K H' v d
  | _, _, .non => .non
  | _, _, .bl b => .bl b
  | _, _, .int i => .int i
  | _, _, .str x => .str x
  | _, _, .lst h t => .lst (Same.seq s h) (DpAll.same s t)
  | _, _, .tup h t => .tup (Same.seqT s h) (DpAll.same s t)
theorem DpAll.same {K : PySem.W.Frag} {H H' : Hp} (s : Same H H') : ∀ {vs : List V} {ds : List PyData}, DpAll K H vs ds → DpAll K H' vs ds
  | _, _, .nil => .nil
  | _, _, .cons a b => .cons (Dp.same s a) (DpAll.same s b)
end
theorem DpAll.len {K : PySem.W.Frag} {H : Hp} : ∀ {vs : List V} {ds : List PyData}, DpAll K H vs ds → vs.length = ds.length
  | _, _, .nil => rfl
  | _, _, .cons _ b => congrArg Nat.succ (DpAll.len b)
theorem DpAll.app {K : PySem.W.Frag} {H : Hp} : ∀ {vs us : List V} {ds es : List PyData}, DpAll K H vs ds → DpAll K H us es → DpAll K H (vs ++ us) (ds ++ es)
  | _, _, _, _, .nil, h => h
  | _, _, _, _, .cons a b, h => .cons a (DpAll.app b h)
theorem DpAll.get {K : PySem.W.Frag} {H : Hp} : ∀ {vs : List V} {ds : List PyData} {i : Nat} {v : V}, DpAll K H vs ds → vs[i]? = some v → ∃ d, ds[i]? = some d ∧ Dp K H v d
  | _, _, 0, _, .cons a _, h => ⟨_, rfl, by cases h; exact a⟩
  | _, _, i + 1, _, .cons _ b, h => DpAll.get (i := i) b (by simpa using h)
theorem DpAll.strs {K : PySem.W.Frag} {H : Hp} : ∀ xs : List Str, DpAll K H (xs.map V.str) (xs.map PyData.str)
  | [] => .nil
  | x :: xs => .cons (.str x) (DpAll.strs xs)
theorem Same.new {H H' : Hp} {p : Addr} {o : HO} (s : Same H H') (h : H' p = none) : Same H (upd H' p o) := fun b u e => by
  have e' := s b u e
  rw [upd_ne (ne_of_none e' h)]
  exact e'
/-- an object of one's own, made since, is written -/
theorem Same.own {H H' : Hp} {p : Addr} {o : HO} (s : Same H H') (h : H p = none) : Same H (upd H' p o) := fun b u e => by
  have n : b ≠ p := ne_of_none e h
  rw [upd_ne n]
  exact s b u e
end L2
namespace Lore
open PySem PySem.Spec PyProof.Rows L2
theorem pe_gstr {X : Cx} {x z : Str} {pos : Pos} (h : ∃ t, X.mg x = some (.str z t)) (hg : Gl X x := by rfl) (hd : (x == ("__debug__" : Str)) = false := by decide) : PE X (.Name x pos) (tC (.str z)) := by
  obtain ⟨t, h⟩ := h
  exact pe_glob hg h ⟨t, rfl⟩ hd
theorem pe_gint {X : Cx} {x : Str} {z : Int} {pos : Pos} (h : ∃ t, X.mg x = some (.int z t)) (hg : Gl X x := by rfl) (hd : (x == ("__debug__" : Str)) = false := by decide) : PE X (.Name x pos) (tC (.int z)) := by
  obtain ⟨t, h⟩ := h
  exact pe_glob hg h ⟨t, rfl⟩ hd
theorem pe_gref {X : Cx} {x : Str} {a : Addr} {pos : Pos} (h : X.mg x = some (.ref a)) (hg : Gl X x := by rfl) (hd : (x == ("__debug__" : Str)) = false := by decide) : PE X (.Name x pos) (tC (.ref a)) := pe_glob hg h rfl hd
/-- bag(script): a new bag -/
def spBag (K : PySem.W.Frag) : Sp := fun vs H Q _ => ∃ (a : Addr) (ns : List Int), vs = [.ref a] ∧ SqL K H a (ns.map V.int) ∧ ∀ (p c : Addr) (H' : Hp), Same H H' → H p = none → H c = none → BagAt H' p c → Q (.ref p) H'
/-- some(bag, things): one of them -/
def spSome (K : PySem.W.Frag) : Sp := fun vs H Q _ => ∃ (p c l : Addr) (xs : List V), vs = [.ref p, .ref l] ∧ BagAt H p c ∧ SqL K H l xs ∧ l ≠ p ∧ 0 < xs.length ∧ xs.length < 1073741824 ∧
  ∀ (i : Nat) (v : V) (H' : Hp), xs[i]? = some v → BagAt H' p c → SameBut p H H' → Q v H'
theorem sq_but {K : PySem.W.Frag} {H H' : Hp} {p a : Addr} {xs : List V} (s : SameBut p H H') (n : a ≠ p) (h : SqL K H a xs) : SqL K H' a xs := by
  rcases h with (h | ⟨o, h⟩) | h
  · exact .inl (.inl (s _ _ h n))
  · exact .inl (.inr ⟨o, s _ _ h n⟩)
  · exact .inr h
end Lore
namespace Lore
open PySem PySem.Spec PyProof.Rows L2
def tyN : PyData → String
  | .none => "NoneType"
  | .bool _ => "bool"
  | .int _ => "int"
  | .str _ => "str"
  | .list _ => "list"
  | .tuple _ => "tuple"
  | .dict _ => "dict"
def isSq : PyData → Bool
  | .list _ => true
  | .tuple _ => true
  | _ => false
mutual
def szD : PyData → Nat
  | .list ds => 1 + szL ds
  | .tuple ds => 1 + szL ds
  | _ => 1
def szL : List PyData → Nat
  | [] => 0
  | d :: ds => szD d + szL ds
end
theorem szD_pos (d : PyData) : 1 ≤ szD d := by
  cases d <;> simp only [szD] <;> omega
theorem szD_flat {d : PyData} (e : isSq d = false) : szD d = 1 := by
  cases d <;> first | rfl | (cases e; done)
theorem szL_app : ∀ ds es : List PyData, szL (ds ++ es) = szL ds + szL es
  | [], es => by simp only [List.nil_append, szL]; omega
  | d :: ds, es => by simp only [List.cons_append, szL, szL_app ds es]; omega
theorem szL_len : ∀ ds : List PyData, ds.length ≤ szL ds
  | [] => Nat.le_refl _
  | d :: ds => by
    have h1 := szD_pos d
    have h2 := szL_len ds
    simp only [List.length_cons, szL]
    omega
theorem ty_dp {K : PySem.W.Frag} {H : Hp} {v : V} {d : PyData} (h : Dp K H v d) : TyX K H v (.type (tyN d)) := by
  cases h with
  | non => exact .base .non
  | bl b => exact .base (.bl b)
  | int i => exact .base (.int i)
  | str x => exact .base (.str x)
  | lst h _ =>
    rcases h with (h | ⟨o, h⟩) | ⟨o, its, n, h, hc, _⟩
    · exact .base (.lst h)
    · exact .base (.frz h)
    · exact .kList h hc
  | tup h _ =>
    rcases h with (h | ⟨o, h⟩) | ⟨o, its, n, h, hc, _⟩
    · exact .base (.tup h)
    · exact .fTuple h
    · exact .kTuple h hc
theorem kit6 {n T : String} (hn : n = "NoneType" ∨ n = "bool" ∨ n = "int" ∨ n = "str" ∨ n = "list" ∨ n = "tuple") (hT : T = "bool" ∨ T = "str" ∨ T = "tuple" ∨ T = "list") : kitB n T = some (decide (n = T)) := by
  rcases hn with rfl | rfl | rfl | rfl | rfl | rfl <;> rcases hT with rfl | rfl | rfl | rfl <;> decide +kernel
theorem tyN6 {K : PySem.W.Frag} {H : Hp} {v : V} {d : PyData} (h : Dp K H v d) : tyN d = "NoneType" ∨ tyN d = "bool" ∨ tyN d = "int" ∨ tyN d = "str" ∨ tyN d = "list" ∨ tyN d = "tuple" := by
  cases h <;> simp [tyN]
section
variable {K : PySem.W.Frag} {H : Hp} {v : V} {d : PyData}
theorem ki_bool (h : Dp K H v d) : PySem.W.kitOne K (.type (tyN d)) (.type "bool") = some (decide (tyN d = "bool")) := kit_ty (kit6 (tyN6 h) (by simp))
theorem ki_str (h : Dp K H v d) : PySem.W.kitOne K (.type (tyN d)) (.type "str") = some (decide (tyN d = "str")) := kit_ty (kit6 (tyN6 h) (by simp))
theorem ki_tup (h : Dp K H v d) : PySem.W.kitOne K (.type (tyN d)) (.type "tuple") = some (decide (tyN d = "tuple")) := kit_ty (kit6 (tyN6 h) (by simp))
theorem ki_list (h : Dp K H v d) : PySem.W.kitOne K (.type (tyN d)) (.type "list") = some (decide (tyN d = "list")) := kit_ty (kit6 (tyN6 h) (by simp))
/-- isinstance(x, (tuple, list)) -/
theorem ki_seq (h : Dp K H v d) : PySem.W.kitAny K (.type (tyN d)) [.type "tuple", .type "list"] = some (isSq d) := by
  refine kitAny_cons (ki_tup h) (fun e => ?_) (fun e => ?_)
  · refine kitAny_cons (ki_list h) (fun e' => ?_) (fun e' => ?_)
    · cases h <;> first | exact kitAny_nil | (simp [tyN] at e; done) | (simp [tyN] at e'; done)
    · cases h <;> first | rfl | (simp [tyN] at e'; done)
  · cases h <;> first | rfl | (simp [tyN] at e; done)
theorem cls2 : Paired ClsV [V.ty "tuple", V.ty "list"] [.type "tuple", .type "list"] := .cons (.ty _) (.cons (.ty _) .nil)
end
theorem dp_sq {K : PySem.W.Frag} {H : Hp} {x y : V} {d : PyData} (hx : Dp K H x d) (hy : Dp K H y d) (e : isSq d = true) : ∃ (ax ay : Addr) (xs ys : List V) (ds : List PyData),
    x = .ref ax ∧ y = .ref ay ∧ ((SqL K H ax xs ∧ SqL K H ay ys) ∨ (SqT K H ax xs ∧ SqT K H ay ys)) ∧ DpAll K H xs ds ∧ DpAll K H ys ds ∧ szD d = 1 + szL ds := by
  cases hx with
  | lst h t =>
    cases hy with
    | lst h' t' => exact ⟨_, _, _, _, _, rfl, rfl, .inl ⟨h, h'⟩, t, t', by simp only [szD]⟩
  | tup h t =>
    cases hy with
    | tup h' t' => exact ⟨_, _, _, _, _, rfl, rfl, .inr ⟨h, h'⟩, t, t', by simp only [szD]⟩
  | _ => cases e
theorem dp_flat {K : PySem.W.Frag} {H : Hp} {x y : V} {d : PyData} (hx : Dp K H x d) (hy : Dp K H y d) (e : isSq d = false) : x = y ∧ scal x y = true := by
  cases hx <;> first | (cases e; done) | (cases hy; exact ⟨rfl, rfl⟩)
/-- alike(found, due): both are the same data -/
def spAlike (K : PySem.W.Frag) : Sp := fun vs H Q _ => ∃ (a b : V) (d : PyData), vs = [a, b] ∧ Dp K H a d ∧ Dp K H b d ∧ szD d ≤ 1000000 ∧ ∀ H', Same H H' → Q (.bl true) H'
/-- a couple laid at t, of the same data, which stood in H0 -/
def PairAt (K : PySem.W.Frag) (H0 H : Hp) (t : Addr) (d : PyData) : Prop := ∃ x y, H t = some (.tup [x, y]) ∧ Dp K H0 x d ∧ Dp K H0 y d
def pend (l : List (Addr × PyData)) (n : Nat) : Nat := szL ((l.drop n).map (·.2))
theorem pend_step {l : List (Addr × PyData)} {n : Nat} {q : Addr × PyData} (h : l[n]? = some q) (ms : List (Addr × PyData)) : pend (l ++ ms) (n + 1) + szD q.2 = pend l n + szL (ms.map (·.2)) := by
  have hn : n < l.length := by
    rcases Nat.lt_or_ge n l.length with z | z
    · exact z
    · rw [List.getElem?_eq_none z] at h; cases h
  have e : l.drop n = q :: l.drop (n + 1) := by
    rw [List.drop_eq_getElem_cons hn]
    rw [List.getElem?_eq_getElem hn] at h
    rw [Option.some.inj h]
  unfold pend
  rw [List.drop_append_of_le_length (by omega), e, List.map_append, szL_app, List.map_cons]
  simp only [szL]
  omega
theorem pend_len (l : List (Addr × PyData)) (n : Nat) : l.length ≤ pend l n + n := by
  have := szL_len ((l.drop n).map (·.2))
  unfold pend
  rw [List.length_map, List.length_drop] at this
  omega
end Lore
namespace Lore
open PySem PySem.Spec PyProof.Rows L2 TL
def mk (l : List Nat) : Str := ⟨l.toArray⟩
theorem tl_mk' (l : List Nat) : tl (mk l) = l := rfl
theorem mk_tl' (x : Str) : mk (tl x) = x := mk_tl x
theorem mk_inj {a b : List Nat} (h : mk a = mk b) : a = b := by
  have := congrArg tl h
  rwa [tl_mk', tl_mk'] at this
theorem len_mk (l : List Nat) : (mk l).length = l.length := by rw [len_tl, tl_mk']
theorem mk_app (a b : List Nat) : mk a ++ mk b = mk (a ++ b) := ext_tl (by rw [tl_append]; rfl)
theorem dec_mk {a b : List Nat} : decide (V.str (mk a) = V.str (mk b)) = decide (a = b) := by
  by_cases h : a = b
  · subst h; simp
  · have : ¬ (V.str (mk a) = V.str (mk b)) := fun e => h (mk_inj (V.str.inj e))
    rw [decide_eq_false this, decide_eq_false h]
theorem cutS_nat (l : List Nat) (i j : Nat) : cutS (mk l) (some (i : Int)) (some (j : Int)) = mk ((l.drop i).take (j - i)) := by
  have e1 : HT.sIx (mk l).length 0 (some (i : Int)) = min i l.length := by rw [HT.sIx_nat, len_mk]
  have e2 : HT.sIx (mk l).length (mk l).length (some (j : Int)) = min j l.length := by rw [HT.sIx_nat, len_mk]
  unfold cutS
  rw [e1, e2]
  show mk ((l.drop _).take _) = _
  congr 1
  by_cases hi : i ≤ l.length
  · rw [Nat.min_eq_left hi]
    by_cases hj : j ≤ l.length
    · rw [Nat.min_eq_left hj]
    · rw [Nat.min_eq_right (show l.length ≤ j by omega), List.take_of_length_le (by rw [List.length_drop]; omega), List.take_of_length_le (by rw [List.length_drop]; omega)]
  · rw [Nat.min_eq_right (show l.length ≤ i by omega), List.drop_of_length_le (show l.length ≤ l.length from Nat.le_refl _), List.drop_of_length_le (show l.length ≤ i by omega), List.take_nil, List.take_nil]
theorem cutS_to (l : List Nat) (j : Nat) : cutS (mk l) none (some (j : Int)) = mk (l.take j) := by
  have e2 : HT.sIx (mk l).length (mk l).length (some (j : Int)) = min j l.length := by rw [HT.sIx_nat, len_mk]
  unfold cutS
  rw [e2, HT.sIx_none]
  show mk ((l.drop 0).take _) = _
  congr 1
  rw [List.drop_zero, Nat.sub_zero]
  by_cases hj : j ≤ l.length
  · rw [Nat.min_eq_left hj]
  · rw [Nat.min_eq_right (show l.length ≤ j by omega), List.take_of_length_le (Nat.le_refl _), List.take_of_length_le (by omega)]
theorem cutS_from (l : List Nat) (i : Nat) : cutS (mk l) (some (i : Int)) none = mk (l.drop i) := by
  have e1 : HT.sIx (mk l).length 0 (some (i : Int)) = min i l.length := by rw [HT.sIx_nat, len_mk]
  unfold cutS
  rw [e1, HT.sIx_none, len_mk]
  show mk ((l.drop _).take _) = _
  congr 1
  by_cases hi : i ≤ l.length
  · rw [Nat.min_eq_left hi, List.take_of_length_le (by rw [List.length_drop]; omega)]
  · rw [Nat.min_eq_right (show l.length ≤ i by omega), List.drop_of_length_le (show l.length ≤ l.length from Nat.le_refl _), List.drop_of_length_le (show l.length ≤ i by omega), List.take_nil]
theorem atI_mk {l : List Nat} {i c : Nat} (h : l[i]? = some c) : atI (mk l).cps.toList (i : Int) = some c := atI_nat h
/-- s[i] -/
theorem ixS_mk {l : List Nat} {i c : Nat} {H : Hp} {Q : VK} (hl : l.length ≤ sizeLine) (h : l[i]? = some c) (q : Q (.str (mk [c])) H) : rIxS (.str (mk l)) (.int (i : Int)) H Q :=
  ⟨_, _, _, rfl, rfl, by rw [len_mk]; exact hl, atI_mk h, q⟩
theorem take_run (p : Nat → Bool) : ∀ l : List Nat, l.take (l.takeWhile p).length = l.takeWhile p
  | [] => rfl
  | c :: l => by
    rw [List.takeWhile_cons]
    split
    · simp [take_run p l]
    · rfl
end Lore
namespace Lore
open PySem PySem.Spec PyProof.Rows L2 LamX
/-- couples laid for a displayed list of pairs -/
def pairsT : List (V × V) → TA
  | [] => tNil
  | q :: l => tCons (tTup (tCons (tC q.1) (tCons (tC q.2) tNil))) (pairsT l)
theorem pa_prn {X : Cx} : PA X [] (pairsT []) := pa_nil
theorem pa_pr {X : Cx} {c1 c2 : Const} {j1 j2 : Nat} {p1 p2 : Pos} {es : List Expr} {a b : V} {l : List (V × V)} {k : Nat} {pos : Pos} (h1 : PE X (.Constant c1 j1 p1) (tC a)) (h2 : PE X (.Constant c2 j2 p2) (tC b)) (h : PA X es (pairsT l)) : PA X (.Tuple [.Constant c1 j1 p1, .Constant c2 j2 p2] k pos :: es) (pairsT ((a, b) :: l)) := pa_cons (pe_tup (pa_cons h1 (pa_cons h2 pa_nil))) h
/-- name = e, then the rest -/
theorem r_set {te : TE} {i : Nat} {u : TS} {D : Ends} {σ : L2.St} {H : Hp} (h : te σ H (fun x H1 => u D (σ.set i (some x)) H1)) : tSeq (tAsg te (gName i)) u D σ H := h
theorem r_asg {te : TE} {g : TG} {u : TS} {D : Ends} {σ : L2.St} {H : Hp} (h : te σ H (fun x H1 => g x σ H1 (u D))) : tSeq (tAsg te g) u D σ H := h
theorem r_ifN {te : TE} {t u : TS} {D : Ends} {σ : L2.St} {H : Hp} (h : te σ H fun x H1 => ∃ c, x = .bl c ∧ if (!c) = true then t { D with nx := u D } σ H1 else u D σ H1) : tSeq (tIfS (tNot (tB te)) t tNext) u D σ H := h
theorem r_ifN1 {te : TE} {t : TS} {D : Ends} {σ : L2.St} {H : Hp} (h : te σ H fun x H1 => ∃ c, x = .bl c ∧ if (!c) = true then t D σ H1 else D.nx σ H1) : tIfS (tNot (tB te)) t tNext D σ H := h
theorem r_expr {te : TE} {u : TS} {D : Ends} {σ : L2.St} {H : Hp} (h : te σ H fun _ H1 => u D σ H1) : tSeq (tDrop te) u D σ H := h
/-- for _ in range(n) -/
theorem r_forR {n : Nat} {g : TG} {tb u : TS} {D : Ends} {σ : L2.St} {H : Hp} (hn : (n : Int) < 2 ^ 62) (Pv : Nat → L2.St → Hp → Prop) (h0 : Pv 0 σ H)
    (hs : ∀ i σ H, i < n → Pv i σ H → g (.int (0 + (i : Nat))) σ H fun σ2 H2 => tb { nx := Pv (i + 1), rt := D.rt, bk := u D, ct := Pv (i + 1) } σ2 H2) (hd : ∀ σ H, Pv n σ H → u D σ H) : tSeq (tFor (iRng1 (tCons (tC (.int (n : Int))) tNil)) g tb) u D σ H :=
  ⟨(n : Int), rfl, by omega, hn, by rw [Int.toNat_natCast]; exact for_range (lo := 0) (n := n) Pv h0 hs hd⟩
/-- for _ in a tuple or list that stands -/
theorem r_forT {K : PySem.W.Frag} {te : TE} {g : TG} {tb u : TS} {D : Ends} {σ : L2.St} {H : Hp} (h : te σ H fun x H1 => ∃ a, x = .ref a ∧ ∃ xs, SqT K H1 a xs ∧ ∃ Pv : Nat → L2.St → Hp → Prop, Pv 0 σ H1 ∧ (∀ i σ H, i ≤ xs.length → Pv i σ H → SqT K H a xs) ∧
      (∀ i x σ H, xs[i]? = some x → Pv i σ H → g x σ H fun σ2 H2 => tb { nx := Pv (i + 1), rt := D.rt, bk := u D, ct := Pv (i + 1) } σ2 H2) ∧ (∀ σ H, Pv xs.length σ H → u D σ H)) (mono : ∀ Q Q' : VK, (∀ x H, Q x H → Q' x H) → te σ H Q → te σ H Q') : tSeq (tFor (iTup K te) g tb) u D σ H :=
  mono _ _ (fun x H1 ⟨a, e, xs, hq, Pv, h0, hl, hs, hd⟩ => ⟨a, e, ⟨xs, hq⟩, for_tup Pv h0 hl hs hd⟩) h
theorem r_for {wi : TI} {g : TG} {tb u : TS} {D : Ends} {σ : L2.St} {H : Hp} (h : tFor wi g tb { nx := u D, rt := D.rt, bk := D.bk, ct := D.ct } σ H) : tSeq (tFor wi g tb) u D σ H := h
theorem r_op {r : R2} {ta tb : TE} {σ : L2.St} {H : Hp} {Q : VK} (h : ta σ H fun x H1 => tb σ H1 fun y H2 => r x y H2 Q) : tOp r ta tb σ H Q := h
theorem r_var {i : Nat} {σ : L2.St} {H : Hp} {Q : VK} {v : V} (e : σ[i]? = some (some v)) (h : Q v H) : tVar i σ H Q := ⟨v, e, h⟩
theorem pairs_read : ∀ (l : List (V × V)) (σ : L2.St) (H : Hp) (Q : List V → Hp → Prop), (∀ (m : List (Addr × (V × V))) (H' : Hp), Same H H' → (∀ q ∈ m, H' q.1 = some (.tup [q.2.1, q.2.2])) → (∀ q ∈ m, H q.1 = none) → m.map (·.2) = l → Q (m.map fun q => .ref q.1) H') → pairsT l σ H Q
  | [], σ, H, Q, h => h [] H (Same.refl H) (fun q hq => by cases hq) (fun q hq => by cases hq) rfl
  | q :: l, σ, H, Q, h => by
    refine ⟨by show 2 ≤ sizeLine; decide, fun t ht => ?_⟩
    refine pairs_read l σ _ _ fun m H' S hm hn he => ?_
    refine h ((t, q) :: m) H' (((Same.refl H).new ht).trans S) (fun z hz => ?_) (fun z hz => ?_) (by rw [List.map_cons, he])
    · rcases List.mem_cons.mp hz with rfl | hz
      · exact S _ _ upd_same
      · exact hm z hz
    · rcases List.mem_cons.mp hz with rfl | hz
      · exact ht
      · exact ((Same.refl H).new ht).free (hn z hz)
theorem pairs_lst (l : List (V × V)) (hl : l.length ≤ sizeLine) (σ : L2.St) (H : Hp) (Q : VK) (h : ∀ (m : List (Addr × (V × V))) (H' : Hp) (p : Addr), Same H H' → (∀ q ∈ m, H' q.1 = some (.tup [q.2.1, q.2.2])) → (∀ q ∈ m, H q.1 = none) → m.map (·.2) = l → H' p = none → Q (.ref p) (upd H' p (.lst (m.map fun q => .ref q.1)))) :
    tLst (pairsT l) σ H Q := by
  refine pairs_read l σ H _ fun m H' S h1 h2 h3 => ⟨?_, fun p hp => h m H' p S h1 h2 h3 hp⟩
  rw [List.length_map, ← List.length_map (f := Prod.snd), h3]
  exact hl
theorem ext_own {H H' : Hp} {p : Addr} {o : HO} (e : ExtN H H') (h : H p = none) : ExtN H (upd H' p o) := fun b u hb n => by
  rw [upd_ne (ne_of_none hb h)]
  exact e b u hb n
theorem ext_new {H H' : Hp} {p : Addr} {o : HO} (e : ExtN H H') (h : H' p = none) : ExtN H (upd H' p o) := e.trans (ExtN.of ((Same.refl H').new h))
theorem ext_same {H H' H'' : Hp} (e : ExtN H H') (s : Same H' H'') : ExtN H H'' := e.trans (ExtN.of s)
theorem ext_free {H H' : Hp} {p : Addr} (e : ExtN H H') (h : H' p = none) {u : HO} (hp : H p = some u) : (∃ ps, u = .tbl ps) := by
  cases u with
  | tbl ps => exact ⟨ps, rfl⟩
  | _ => exact absurd ((e _ _ hp (by intro _ z; cases z)).symm.trans h) (by intro z; cases z)
theorem ext_lst {H H' : Hp} (e : ExtN H H') {p : Addr} {xs : List V} (h : H p = some (.lst xs)) : H' p = some (.lst xs) := e _ _ h (by intro _ z; cases z)
theorem ext_tup {H H' : Hp} (e : ExtN H H') {p : Addr} {xs : List V} (h : H p = some (.tup xs)) : H' p = some (.tup xs) := e _ _ h (by intro _ z; cases z)
theorem TabS.wr {H : Hp} {P f : Addr} {q : Str} {xs ys : List V} (t : TabS H P q) (hf : H f = some (.lst xs)) : TabS (upd H f (.lst ys)) P q := by
  obtain ⟨ps, h1, h2, h3⟩ := t
  refine ⟨ps, by rw [upd_ne (ne_of h1 hf (by intro z; cases z))]; exact h1, h2, fun pos cv hc => ?_⟩
  obtain ⟨c, e1, e2⟩ := h3 pos cv hc
  exact ⟨c, e1, by rw [upd_ne (ne_of e2 hf (by unfold CodeO; intro z; cases z))]; exact e2⟩
theorem ExtN.same {H H' : Hp} (s : Same H H') : ExtN H H' := ExtN.of s
/-- the listener's reading: told or an error at its place -/
theorem TabS.same {H H' : Hp} {P : Addr} {q : Str} (t : TabS H P q) (s : Same H H') : TabS H' P q := t.ext s
theorem TabS.but {H H' : Hp} {P p : Addr} {q : Str} {xs : List V} (t : TabS H P q) (s : SameBut p H H') (hp : H p = some (.lst xs)) : TabS H' P q := by
  obtain ⟨ps, h1, h2, h3⟩ := t
  refine ⟨ps, s _ _ h1 (ne_of h1 hp (by intro z; cases z)), h2, fun pos cv hc => ?_⟩
  obtain ⟨c, e1, e2⟩ := h3 pos cv hc
  exact ⟨c, e1, s _ _ e2 (ne_of e2 hp (by unfold CodeO; intro z; cases z))⟩
end Lore
namespace K21
open PySem PySem.Spec PyProof.Rows L2
def top (i : Nat) : Stmt := PySem.Challenge.pw_lorehouse_k21_words_of_texts_with_their.main.body.getD i (.Pass ⟨0, 0, 0, 0⟩)
abbrev s_LoreError_word : Stmt := inClass (top 1) 0
abbrev s_BadText_init : Stmt := inClass (top 2) 0
abbrev s_is_in_run : Stmt := top 19
abbrev s_kind_of_run : Stmt := top 20
abbrev s_run_at : Stmt := top 21
abbrev s_sign_at : Stmt := top 22
abbrev s_words_of_line : Stmt := top 23
abbrev s_words_of : Stmt := top 24
abbrev s_plain_words : Stmt := top 25
abbrev s_are_alike : Stmt := top 26
abbrev s_spaced : Stmt := top 27
abbrev s_law_bag : Stmt := top 29
abbrev s_law_take : Stmt := top 30
abbrev s_law_some : Stmt := top 31
abbrev s_law_alike : Stmt := top 32
abbrev s_law_heard : Stmt := top 33
abbrev s_law : Stmt := top 34
def d_LoreError_word : He.DefD := ⟨("LoreError", some "word"), "word", "LoreError.word", defArgs s_LoreError_word, defBody s_LoreError_word, defScope s_LoreError_word, [], []⟩
def d_is_in_run : He.DefD := ⟨("is_in_run", none), "is_in_run", "is_in_run", defArgs s_is_in_run, defBody s_is_in_run, defScope s_is_in_run, [], []⟩
def d_kind_of_run : He.DefD := ⟨("kind_of_run", none), "kind_of_run", "kind_of_run", defArgs s_kind_of_run, defBody s_kind_of_run, defScope s_kind_of_run, [], []⟩
def d_run_at : He.DefD := ⟨("run_at", none), "run_at", "run_at", defArgs s_run_at, defBody s_run_at, defScope s_run_at, [], []⟩
def d_sign_at : He.DefD := ⟨("sign_at", none), "sign_at", "sign_at", defArgs s_sign_at, defBody s_sign_at, defScope s_sign_at, [], []⟩
def d_words_of_line : He.DefD := ⟨("words_of_line", none), "words_of_line", "words_of_line", defArgs s_words_of_line, defBody s_words_of_line, defScope s_words_of_line, [], []⟩
def d_words_of : He.DefD := ⟨("words_of", none), "words_of", "words_of", defArgs s_words_of, defBody s_words_of, defScope s_words_of, [], []⟩
def d_plain_words : He.DefD := ⟨("plain_words", none), "plain_words", "plain_words", defArgs s_plain_words, defBody s_plain_words, defScope s_plain_words, [], []⟩
def d_are_alike : He.DefD := ⟨("are_alike", none), "are_alike", "are_alike", defArgs s_are_alike, defBody s_are_alike, defScope s_are_alike, [], []⟩
def d_spaced : He.DefD := ⟨("spaced", none), "spaced", "spaced", defArgs s_spaced, defBody s_spaced, defScope s_spaced, [], []⟩
def d_law_bag : He.DefD := ⟨("_law_bag", none), "_law_bag", "_law_bag", defArgs s_law_bag, defBody s_law_bag, defScope s_law_bag, [], []⟩
def d_law_take : He.DefD := ⟨("_law_take", none), "_law_take", "_law_take", defArgs s_law_take, defBody s_law_take, defScope s_law_take, [], []⟩
def d_law_some : He.DefD := ⟨("_law_some", none), "_law_some", "_law_some", defArgs s_law_some, defBody s_law_some, defScope s_law_some, [], []⟩
def d_law_alike : He.DefD := ⟨("_law_alike", none), "_law_alike", "_law_alike", defArgs s_law_alike, defBody s_law_alike, defScope s_law_alike, [], []⟩
def d_law_heard : He.DefD := ⟨("_law_heard", none), "_law_heard", "_law_heard", defArgs s_law_heard, defBody s_law_heard, defScope s_law_heard, [], []⟩
def d_law : He.DefD := ⟨("law", none), "law", "law", defArgs s_law, defBody s_law, defScope s_law, [], []⟩
def fn : List He.DefD := [d_LoreError_word, d_is_in_run, d_kind_of_run, d_run_at, d_sign_at, d_words_of_line, d_words_of, d_plain_words, d_are_alike, d_spaced, d_law_bag, d_law_take, d_law_some, d_law_alike, d_law_heard, d_law]
abbrev FnP (K : PySem.W.Frag) (x : Str) (st : Stmt) (f : Addr) (fd : FuncData) : Prop := FunD K x x (defArgs st) (defBody st) (defScope st) [] [] f fd
def dC : He.DefD := ⟨("BadText", some "__init__"), "__init__", "BadText.__init__", defArgs s_BadText_init, defBody s_BadText_init, defScope s_BadText_init, [], []⟩
def cs : List He.Clo := [(dC, ["__class__"])]
def fa : List He.Fa := [.glo "is_in_run", .glo "kind_of_run", .glo "run_at", .glo "sign_at", .glo "words_of_line", .glo "words_of", .glo "plain_words", .glo "are_alike", .glo "spaced",
  .glo "_law_bag", .glo "_law_take", .glo "_law_some", .glo "_law_alike", .glo "_law_heard", .glo "law", .glo "BadText", .glo "KEYS", .glo "SIGNS",
  .str "LETTERS" "abcdefghijklmnopqrstuvwxyz", .str "CAPITALS" "ABCDEFGHIJKLMNOPQRSTUVWXYZ", .str "DIGITS" "0123456789", .int "MOST_SIGNS" 8,
  .str "NAME" "name", .str "KEY" "key", .str "VARIABLE" "variable", .str "NUMBER" "number", .str "SIGN" "sign", .str "END" "end", .str "BLANK" " ", .str "NOTE" "#", .int "MOST_FIGURES" 3,
  .free "all", .free "len", .free "enumerate", .free "tuple", .free "abs", .free "int", .free "isinstance", .free "bool", .free "str", .free "list", .free "zip", .free "range", .free "super",
  .exm "BadText" "BadText" true]
def ex (K : PySem.W.Frag) : Bool := He.tupB K "SIGNS" [.str ":-", .str "<=", .str "!=", .str "(", .str ")", .str ",", .str ".", .str "<", .str "="] && (He.tupB K "KEYS" [.str "count", .str "least", .str "most", .str "not"] && LoreX.exAll K PySem.Challenge.pw_lorehouse_k21_words_of_texts_with_their.main.file "BadText" ["line", "column"])
def tf : List He.Defn := [("law", none)]
abbrev R : PySem.W.OpenRow := PySem.W.OpenLaw.row PySem.Challenge.rw_lorehouse_k21_words_of_texts_with_their
abbrev hk : PySem.W.Hook := He.hookZ 5 fa fn [] tf cs ex
def ob (s : PySem.W.SharedT) : He.AlZ := He.obsZ 5 fa fn [] tf cs ex (HandSHeadRun.getT s)
theorem ob_eq (s : PySem.W.SharedT) : ob s = hk.obs s.abs := He.obsZ_eq (HandSHeadRun.getT_eq s)
def loose : List Str := ["__name__", "LoreError", "BadText", "LETTERS", "CAPITALS", "DIGITS", "KEYS", "MOST_SIGNS", "SIGNS", "NAME", "KEY", "VARIABLE", "NUMBER", "SIGN", "END", "BLANK", "NOTE", "MOST_FIGURES",
  "is_in_run", "kind_of_run", "run_at", "sign_at", "words_of_line", "words_of", "plain_words", "are_alike", "spaced", "_law_bag", "_law_take", "_law_some", "_law_alike", "_law_heard"]
theorem run (w : World) : HandSHeadRun.RunEq R (PySem.W.view R.prog [34]) hk ob 2000 loose w := by
  intro os
  kernel_rfl
end K21
namespace K21
open PySem PySem.Spec PyProof.Rows L2 Lore
section
variable {P : Program} {w : World} {K : PySem.W.Frag} {mg : Str → Option Value} {base : Heap} {f : Addr} {fd : FuncData}
theorem sc_take : FnScope ["bag", "many", "cell", "stirred", "value", "begin", "second"] ["bag", "many"] (defScope s_law_take) := ⟨rfl, rfl, rfl, by decide +kernel, rfl, by decide +kernel, by decide +kernel⟩
theorem ok_take (F : FnP K "_law_take" s_law_take f fd) (gI : mg "int" = none) : FnOk P w K mg base CX0 1 f fd ["bag", "many"] spTake := by
  have nd := sc_take.nd
  refine F.ok sc_take (fun vs H Q E h => ?_) (fun cdv A outer s H vs Q E hr h => ?_)
  · obtain ⟨p, c, m, rfl, _⟩ := h
    rfl
  · obtain ⟨p, c, m, rfl, B, hm0, hm1, k⟩ := h
    have npc := B.ne
    obtain ⟨⟨z, u, n, h1, hz, hu0, hu1, hn⟩, ns, h2, hns, hnl⟩ := id B
    refine ⟨_, PSs.nox (pss_cons (ps_if (pt_cmpR op_eq (pe_ix ix_list (pv 0) pe_int (fun _ _ => rfl)) pe_int (nomark _))
        (pss_cons (ps_set (i := 2) nd rfl (.inl rfl) (pe_ix ix_list (pe_op op_cat (pe_slice sl_list (pe_ix ix_list (pv 0) pe_int (fun _ _ => rfl)) (po_some (pe_ix ix_list (pv 0) pe_int (fun _ _ => rfl))) po_none) (pe_lst (pa_cons pe_int pa_nil))) pe_int (fun _ _ => rfl)))
        (pss_cons (ps_augS (pv 0) pe_int get_list pe_int ip_add set_list)
        (pss_cons (ps_if (pt_cmpR op_ge (pv 2) (pe_op op_pow pe_int pe_int) (nomark _)) (pss_one (ps_asg (pv 2) (pg_sub (pv 0) pe_int set_list))) pss_nil)
        (pss_cons (ps_set (i := 3) nd rfl (.inl rfl) (pe_op op_add (pe_op op_add (pe_op op_mul (pe_ix ix_list (pv 0) pe_int (fun _ _ => rfl)) pe_int)
            (pe_op op_mod (pe_callTy call_int1 (by rfl) gI boot_int (pa_cons (pv 2) pa_nil)) pe_int)) (pe_op op_mul pe_int (pe_ix ix_list (pv 0) pe_int (fun _ _ => rfl)))))
        (pss_one (ps_asg (pe_op op_mod (pe_callTy call_int1 (by rfl) gI boot_int (pa_cons (pv 3) pa_nil)) pe_int) (pg_sub (pv 0) pe_int set_list))))))) pss_nil)
      (pss_cons (ps_if (pt_cmpR op_gt (pe_ix ix_list (pv 0) pe_int (fun _ _ => rfl)) pe_int (nomark _))
        (pss_cons (ps_set (i := 4) nd rfl (.inl rfl) (pe_op op_mod (pe_callTy call_int1 (by rfl) gI boot_int (pa_cons (pe_ix ix_list (pv 0) pe_int (fun _ _ => rfl)) pa_nil)) (pv 1)))
        (pss_cons (ps_asg (pe_op op_fdiv (pe_callTy call_int1 (by rfl) gI boot_int (pa_cons (pe_ix ix_list (pv 0) pe_int (fun _ _ => rfl)) pa_nil)) (pv 1)) (pg_sub (pv 0) pe_int set_list))
        (pss_one (ps_ret (pv 4))))) pss_nil)
      (pss_cons (ps_set (i := 5) nd rfl (.inl rfl) (pe_op op_mod (pe_callTy call_int1 (by rfl) gI boot_int (pa_cons (pe_op op_mul (pe_op op_add (pe_ix ix_list (pv 0) pe_int (fun _ _ => rfl)) pe_int) pe_int) pa_nil)) pe_int))
      (pss_cons (ps_set (i := 6) nd rfl (.inl rfl) (pe_op op_mod (pe_callTy call_int1 (by rfl) gI boot_int (pa_cons (pe_op op_mul (pe_op op_mod (pe_callTy call_int1 (by rfl) gI boot_int (pa_cons (pe_op op_mul (pv 5) (pv 5)) pa_nil)) pe_int) pe_int) pa_nil)) pe_int))
      (pss_one (ps_ret (pe_op op_mod (pe_callTy call_int1 (by rfl) gI boot_int (pa_cons (pe_op op_fdiv (pv 6) pe_int) pa_nil)) (pv 1)))))))), ?_⟩
    -- if bag[0] == 0: ..
    refine cutR (fun σ' H' => ∃ a b : Option V, σ' = [some (.ref p), some (.int m), a, b, none, none, none] ∧ BagAt H' p c ∧ SameBut p H H') ?_ ?_
    · rintro σ' H' ⟨a, b, rfl, B', S'⟩
      obtain ⟨⟨z', u', n', h1', hz', hu0', hu1', hn'⟩, ns', h2', hns', hnl'⟩ := id B'
      -- if bag[0] > 0
      refine ⟨_, rfl, p, _, 0, .int z', rfl, rfl, .of h1', rfl, _, _, rfl, rfl, _, rfl, ?_⟩
      refine ite2 (fun _ => ?_) (fun _ => ?_)
      · refine ⟨_, rfl, p, _, 0, .int z', rfl, rfl, .of h1', rfl, .inl ⟨_, rfl, _, rfl, _, _, rfl, rfl, hm0, ?_⟩⟩
        refine ⟨_, rfl, p, _, 0, .int z', rfl, rfl, .of h1', rfl, .inl ⟨_, rfl, _, rfl, _, _, rfl, rfl, ⟨hm0, hm1⟩, ?_⟩⟩
        refine ⟨_, rfl, p, _, 0, 0, rfl, rfl, h1', rfl, ?_⟩
        refine ⟨_, rfl, ?_⟩
        refine k _ _ (Int.emod_nonneg _ (by omega)) (Int.emod_lt_of_pos _ hm0) ⟨⟨z' / m, u', n', upd_same, Int.ediv_nonneg hz' (by omega), hu0', hu1', hn'⟩, ns', by rw [upd_ne npc.symm]; exact h2', hns', hnl'⟩ S'.upd
      · refine ⟨_, rfl, p, _, 1, .int u', rfl, rfl, .of h1', rfl, _, _, rfl, rfl, _, _, rfl, rfl, .inl ⟨by omega, by omega⟩, .inl ⟨_, rfl, _, _, rfl, rfl, by show (0 : Int) < 1000000007; decide, ?_⟩⟩
        refine ⟨_, rfl, _, rfl, _, _, rfl, rfl, .inl ⟨by omega, by omega⟩, .inl ⟨_, rfl, _, _, rfl, rfl, by show (0 : Int) < 998244353; decide, ?_⟩⟩
        refine ⟨_, _, rfl, rfl, .inl ⟨by omega, by omega⟩, .inl ⟨_, rfl, _, _, rfl, rfl, by show (0 : Int) < 998244353; decide, ?_⟩⟩
        refine ⟨_, rfl, _, _, rfl, rfl, ⟨by decide, by decide⟩, .inl ⟨_, rfl, _, rfl, _, _, rfl, rfl, hm0, ?_⟩⟩
        exact k _ _ (Int.emod_nonneg _ (by omega)) (Int.emod_lt_of_pos _ hm0) B' S'
    · intro N hN
      refine ⟨_, rfl, p, _, 0, .int z, rfl, rfl, .of h1, rfl, rfl, _, rfl, ?_⟩
      refine ite2 (fun _ => ?_) (fun _ => ?_)
      · -- cell = (bag[3][bag[2]:] + [0])[0]
        refine ⟨_, rfl, p, _, 3, .ref c, rfl, rfl, .of h1, rfl, _, rfl, p, _, 2, .int n, rfl, rfl, .of h1, rfl, n, rfl, c, _, rfl, .of h2, fun q1 hq1 => ?_⟩
        have np1 : p ≠ q1 := ne_of_none h1 hq1
        have nc1 : c ≠ q1 := ne_of_none h2 hq1
        refine ⟨by show 1 ≤ sizeLine; decide, fun q2 hq2 => ?_⟩
        have n12 : q1 ≠ q2 := ne_of_none upd_same hq2
        have np2 : p ≠ q2 := ne_of_none (show upd H q1 (.lst (cutV (ns.map V.int) (some n) none)) p = some _ by rw [upd_ne np1]; exact h1) hq2
        have nc2 : c ≠ q2 := ne_of_none (show upd H q1 (.lst (cutV (ns.map V.int) (some n) none)) c = some _ by rw [upd_ne nc1]; exact h2) hq2
        have hlen : (cutV (ns.map V.int) (some n) none).length ≤ 63 := by
          have := cutV_length (ns.map V.int) (some n) none
          rw [List.length_map] at this
          omega
        refine ⟨q1, q2, _, _, rfl, rfl, by rw [upd_ne n12, upd_same], upd_same, ?_, fun q3 hq3 => ?_⟩
        · refine Nat.le_trans (Nat.add_le_add_right hlen 1) ?_
          decide
        obtain ⟨x, hx0, hx⟩ := cut_head (n := n) hns
        refine ⟨q3, _, 0, .int x, rfl, rfl, .of upd_same, hx, ?_⟩
        generalize e3 : upd (upd (upd H q1 (.lst (cutV (ns.map V.int) (some n) none))) q2 (.lst [V.int 0])) q3 (.lst (cutV (ns.map V.int) (some n) none ++ [V.int 0])) = H3
        have S3 : Same H H3 := fun b o e => by
          have b1 : b ≠ q1 := ne_of_none e hq1
          have b2 : b ≠ q2 := ne_of_none (show upd H q1 (.lst (cutV (ns.map V.int) (some n) none)) b = some o by rw [upd_ne b1]; exact e) hq2
          have b3 : b ≠ q3 := ne_of_none (show upd (upd H q1 (.lst (cutV (ns.map V.int) (some n) none))) q2 (.lst [V.int 0]) b = some o by rw [upd_ne b2, upd_ne b1]; exact e) hq3
          rw [← e3, upd_ne b3, upd_ne b2, upd_ne b1]
          exact e
        have hp3 := S3 _ _ h1
        -- bag[2] += 1
        refine ⟨_, rfl, p, _, 2, .int n, rfl, rfl, .of hp3, rfl, _, _, rfl, rfl, p, _, 2, 2, rfl, rfl, hp3, rfl, ?_⟩
        generalize e4 : upd H3 p (.lst ([V.int z, V.int u, V.int n, V.ref c].set 2 (V.int (n + 1)))) = H4
        have hp4 : H4 p = some (.lst [.int z, .int u, .int (n + 1), .ref c]) := by rw [← e4, upd_same]; rfl
        have S4 : SameBut p H H4 := by rw [← e4]; exact (same_but S3).upd
        -- if cell >= 10 ** 18: bag[0] = cell
        dsimp only
        refine cutR (t := tIfS _ _ _) (fun σ' H' => σ' = [some (.ref p), some (.int m), some (.int x), none, none, none, none] ∧ SameBut p H H' ∧ ∃ z', 0 ≤ z' ∧ H' p = some (.lst [.int z', .int u, .int (n + 1), .ref c])) ?_ ?_
        · rintro σ' H5 ⟨rfl, S5, z', hz', hp5⟩
          -- stirred, bag[1]
          refine ⟨_, rfl, p, _, 1, .int u, rfl, rfl, .of hp5, rfl, _, _, rfl, rfl, .inl ⟨by omega, by omega⟩, _, rfl, .inl ⟨_, rfl, _, _, rfl, rfl, by show (0 : Int) < 2147483647; decide, _, _, rfl, rfl, _, rfl, p, _, 2, .int (n + 1), rfl, rfl, .of hp5, rfl, _, _, rfl, rfl, .inl ⟨by decide, by decide⟩, _, _, rfl, rfl, ?_⟩⟩
          refine ⟨_, rfl, .inl ⟨_, rfl, _, _, rfl, rfl, by show (0 : Int) < 2147483647; decide, _, rfl, p, _, 1, 1, rfl, rfl, hp5, rfl, ?_⟩⟩
          refine hN _ _ ⟨_, _, rfl, ⟨⟨z', _, n + 1, upd_same, hz', Int.emod_nonneg _ (by decide), Int.emod_lt_of_pos _ (by decide), by omega⟩, ns, ?_, hns, hnl⟩, S5.upd⟩
          rw [upd_ne npc.symm]
          exact S5 _ _ h2 npc.symm
        · intro N' hN'
          refine ⟨_, rfl, _, _, rfl, rfl, ⟨by decide, by decide, by decide⟩, _, _, rfl, rfl, _, rfl, ?_⟩
          refine ite2 (fun _ => ?_) (fun _ => ?_)
          · refine ⟨_, rfl, _, rfl, p, _, 0, 0, rfl, rfl, hp4, rfl, ?_⟩
            exact hN' _ _ ⟨rfl, S4.upd, x, hx0, upd_same⟩
          · exact hN' _ _ ⟨rfl, S4, z, hz, hp4⟩
      · exact hN _ _ ⟨none, none, rfl, B, .refl p H⟩
end
end K21
namespace K21
open PySem PySem.Spec PyProof.Rows L2 Lore
section
variable {P : Program} {w : World} {K : PySem.W.Frag} {mg : Str → Option Value} {base : Heap} {f : Addr} {fd : FuncData}
theorem sc_bag : FnScope ["script", "cell"] ["script"] (defScope s_law_bag) := ⟨rfl, rfl, rfl, by decide +kernel, rfl, by decide +kernel, by decide +kernel⟩
theorem ok_bag (F : FnP K "_law_bag" s_law_bag f fd) (gA : mg "abs" = none) : FnOk P w K mg base CX0 1 f fd ["script"] (spBag K) := by
  have nd := sc_bag.nd
  refine F.ok sc_bag (fun vs H Q E h => ?_) (fun cdv A outer s H vs Q E hr h => ?_)
  · obtain ⟨a, ns, rfl, _⟩ := h
    rfl
  · obtain ⟨a, ns, rfl, ha, k⟩ := h
    refine ⟨_, PSs.nox (pss_one (ps_ret (pe_lst (pa_cons pe_int (pa_cons pe_int (pa_cons pe_int (pa_cons
      (pe_lc (own := [("cell", 1)]) (g := gName 1) (tt := tYes) rfl nd (pi_list (pe_slice sl_list (pv 0) po_none (po_some pe_int)))
        (blkOk_by (N := ["script", "cell"]) (sc := defScope s_law_bag) (by decide +kernel)) (fun _ _ _ _ _ => pg_name (i := 1) nd rfl (.inl rfl)) (fun _ _ _ _ _ => pts_nil)
        (fun _ _ _ _ _ => pe_callB call_abs (by rfl) gA boot_abs (pa_cons (pv 1) pa_nil))) pa_nil))))))), ?_⟩
    refine ⟨_, rfl, 63, rfl, a, _, rfl, ha, fun q hq => ?_⟩
    refine ⟨q, rfl, ⟨_, .of upd_same⟩, fun c hc => ?_⟩
    have nqc : q ≠ c := ne_of_none upd_same hc
    have e63 : cutV (ns.map V.int) none (some 63) = (ns.take 63).map V.int := by
      have e : HT.sIx (ns.map V.int).length (ns.map V.int).length (some 63) = min 63 (ns.map V.int).length := HT.sIx_nat _ _ 63
      have e0 : HT.sIx (ns.map V.int).length 0 none = 0 := rfl
      unfold cutV
      rw [e, e0, List.drop_zero, Nat.sub_zero, List.map_take, List.length_map]
      by_cases hl : 63 ≤ ns.length
      · rw [Nat.min_eq_left hl]
      · rw [Nat.min_eq_right (by omega), List.take_of_length_le (by simp), List.take_of_length_le (by simp; omega)]
    rw [e63] at hc ⊢
    generalize ens : ns.take 63 = ms at hc ⊢
    have hms : ms.length ≤ 63 := by rw [← ens, List.length_take]; omega
    have hcq : H c = none := by rw [upd_ne nqc.symm] at hc; exact hc
    refine lc_list (xs := ms.map V.int) (fun i H' => H' = upd (upd H q (.lst (ms.map V.int))) c (.lst ((ms.take i).map fun x => V.int (if x < 0 then -x else x)))) rfl (fun i H' _ e => ?_) (fun i x H' hx e => ?_) (fun H' e => ?_)
    · subst e
      refine .of ?_
      rw [upd_ne nqc, upd_same]
    · subst e
      rw [List.getElem?_map] at hx
      cases hy : ms[i]? with
      | none => rw [hy] at hx; cases hx
      | some y =>
        rw [hy] at hx
        cases hx
        refine ⟨rfl, ?_⟩
        show _
        refine ⟨_, rfl, y, rfl, _, upd_same, ?_, ?_⟩
        · simp only [List.length_map, List.length_take]
          have := sizeLine_eq
          omega
        · rw [upd_upd, List.take_add_one, hy]
          simp
    · subst e
      rw [List.length_map, List.take_length]
      refine ⟨by show 4 ≤ sizeLine; decide, fun p hp => ?_⟩
      have ncp : c ≠ p := ne_of_none upd_same hp
      have hp2 : upd H q (.lst (ms.map V.int)) p = none := by rw [upd_ne ncp.symm] at hp; exact hp
      have nqp : q ≠ p := ne_of_none upd_same hp2
      have hpH : H p = none := by rw [upd_ne nqp.symm] at hp2; exact hp2
      refine k p c _ (((Same.refl H).new hq |>.new hc).new hp) hpH hcq ⟨⟨0, 1234567891, 0, upd_same, by decide, by decide, by decide, by decide⟩, ms.map (fun x => if x < 0 then -x else x), ?_, ?_, ?_⟩
      · rw [upd_ne ncp, upd_same, List.map_map]
        rfl
      · intro x hx
        obtain ⟨y, _, e⟩ := List.mem_map.mp hx
        subst e
        by_cases hy : y < 0
        · rw [if_pos hy]; omega
        · rw [if_neg hy]; omega
      · rw [List.length_map]
        exact hms
theorem sc_some : FnScope ["bag", "things"] ["bag", "things"] (defScope s_law_some) := ⟨rfl, rfl, rfl, by decide +kernel, rfl, by decide +kernel, by decide +kernel⟩
theorem ok_some (F : FnP K "_law_some" s_law_some f fd) (T : Cal P w K mg base CX0 1 "_law_take" ["bag", "many"] spTake) (gL : mg "len" = none) : FnOk P w K mg base CX0 2 f fd ["bag", "things"] (spSome K) := by
  have nd := sc_some.nd
  refine F.ok sc_some (fun vs H Q E h => ?_) (fun cdv A outer s H vs Q E hr h => ?_)
  · obtain ⟨p, c, l, xs, rfl, _⟩ := h
    rfl
  · obtain ⟨p, c, l, xs, rfl, B, hl, hne, h0, h1, k⟩ := h
    refine ⟨_, PSs.nox (pss_one (ps_ret (pe_ix ix_list (pv 1) (pe_cal T hr pass0 (pa_cons (pv 0) (pa_cons (pe_callB call_len_seq (by rfl) gL boot_len (pa_cons (pv 1) pa_nil)) pa_nil))) (fun _ _ => rfl)))), ?_⟩
    refine ⟨_, rfl, _, rfl, _, rfl, l, xs, rfl, .inl hl, ?_⟩
    refine ⟨p, c, _, rfl, B, by omega, by omega, fun v H' hv0 hv1 B' S' => ?_⟩
    obtain ⟨i, rfl⟩ := Int.eq_ofNat_of_zero_le hv0
    have hi : i < xs.length := by omega
    have hx : xs[i]? = some xs[i] := by simp [hi]
    exact ⟨l, xs, _, xs[i], rfl, rfl, sq_but S' hne hl, atI_nat hx, k i _ _ hx B' S'⟩
end
end K21
namespace K21
open PySem PySem.Spec PyProof.Rows L2 Lore
section
variable {P : Program} {w : World} {K : PySem.W.Frag} {mg : Str → Option Value} {base : Heap} {f : Addr} {fd : FuncData}
theorem sc_alike : FnScope ["found", "due", "pairs", "at", "one", "other"] ["found", "due"] (defScope s_law_alike) := ⟨rfl, rfl, rfl, by decide +kernel, rfl, by decide +kernel, by decide +kernel⟩
theorem ok_alike (F : FnP K "_law_alike" s_law_alike f fd) (gI : mg "isinstance" = none) (gB : mg "bool" = none) (gS : mg "str" = none) (gT : mg "tuple" = none) (gL : mg "list" = none) (gZ : mg "zip" = none) (gN : mg "len" = none) :
    FnOk P w K mg base CX0 1 f fd ["found", "due"] (spAlike K) := by
  have nd := sc_alike.nd
  refine F.ok sc_alike (fun vs H Q E h => ?_) (fun cdv A outer s H vs Q E hr h => ?_)
  · obtain ⟨a, b, d, rfl, _⟩ := h
    rfl
  · obtain ⟨a, b, d, rfl, ha, hb, hs, k⟩ := h
    refine ⟨_, PSs.nox (pss_cons (ps_par (i := 2) (j := 3) (by rfl) nd rfl rfl (by decide) rfl rfl (pa_cons (pe_lst (pa_cons (pe_tup (pa_cons (pv 0) (pa_cons (pv 1) pa_nil))) pa_nil)) (pa_cons pe_int pa_nil)) (by rfl))
      (pss_cons (ps_while PassesOwn.never (pt_cmpR op_lt (pv 3) (pe_callB call_len_seq (by rfl) gN boot_len (pa_cons (pv 2) pa_nil)) (nomark _))
        (pss_cons (ps_asg (pe_ix ix_list (pv 2) (pv 3) (fun _ _ => rfl)) (pg_tup (by rfl) (pgs_cons (pg_name (i := 4) nd rfl (.inl rfl)) (pgs_cons (pg_name (i := 5) nd rfl (.inl rfl)) pgs_nil))))
        (pss_cons (ps_aug (i := 3) nd rfl (.inl rfl) pe_int ip_add)
        (pss_cons (ps_if (PW.pt (pw_or
            (pt_cmpR op_ne (pe_callB call_isi (by rfl) gI boot_isinstance (pa_cons (pv 4) (pa_cons (pe_bltn (v := .ty "bool") (by rfl) gB boot_bool rfl) pa_nil))) (pe_callB call_isi (by rfl) gI boot_isinstance (pa_cons (pv 5) (pa_cons (pe_bltn (v := .ty "bool") (by rfl) gB boot_bool rfl) pa_nil))) (nomark _))
            (pw_or1 (pt_cmpR op_ne (pe_callB call_isi (by rfl) gI boot_isinstance (pa_cons (pv 4) (pa_cons (pe_bltn (v := .ty "str") (by rfl) gS boot_str rfl) pa_nil))) (pe_callB call_isi (by rfl) gI boot_isinstance (pa_cons (pv 5) (pa_cons (pe_bltn (v := .ty "str") (by rfl) gS boot_str rfl) pa_nil))) (nomark _)))))
          (pss_one (ps_ret pe_bl)) pss_nil)
        (pss_cons (ps_if (pt_cmpR op_ne (pe_callB call_isiT (by rfl) gI boot_isinstance (pa_cons (pv 4) (pa_cons (pe_tup (pa_cons (pe_bltn (v := .ty "tuple") (by rfl) gT boot_tuple rfl) (pa_cons (pe_bltn (v := .ty "list") (by rfl) gL boot_list rfl) pa_nil))) pa_nil)))
              (pe_callB call_isiT (by rfl) gI boot_isinstance (pa_cons (pv 5) (pa_cons (pe_tup (pa_cons (pe_bltn (v := .ty "tuple") (by rfl) gT boot_tuple rfl) (pa_cons (pe_bltn (v := .ty "list") (by rfl) gL boot_list rfl) pa_nil))) pa_nil))) (nomark _))
          (pss_one (ps_ret pe_bl)) pss_nil)
        (pss_one (ps_if (pt_val (pe_callB call_isiT (by rfl) gI boot_isinstance (pa_cons (pv 4) (pa_cons (pe_tup (pa_cons (pe_bltn (v := .ty "tuple") (by rfl) gT boot_tuple rfl) (pa_cons (pe_bltn (v := .ty "list") (by rfl) gL boot_list rfl) pa_nil))) pa_nil))))
          (pss_cons (ps_if (PW.pt (pw_or
              (pt_cmpR op_ne (pe_callB call_isi (by rfl) gI boot_isinstance (pa_cons (pv 4) (pa_cons (pe_bltn (v := .ty "tuple") (by rfl) gT boot_tuple rfl) pa_nil))) (pe_callB call_isi (by rfl) gI boot_isinstance (pa_cons (pv 5) (pa_cons (pe_bltn (v := .ty "tuple") (by rfl) gT boot_tuple rfl) pa_nil))) (nomark _))
              (pw_or1 (pt_cmpR op_ne (pe_callB call_len_seq (by rfl) gN boot_len (pa_cons (pv 4) pa_nil)) (pe_callB call_len_seq (by rfl) gN boot_len (pa_cons (pv 5) pa_nil)) (nomark _)))))
            (pss_one (ps_ret pe_bl)) pss_nil)
          (pss_one (ps_expr (pe_bm PySem.F.plainAttrs_list PySem.F.slot_list_extend PySem.F.type_list_extend mt_extend (pv 2) (pa_cons (LoreZ.pe_listZip rfl (by rfl) gL (by rfl) gZ (pa_cons (pv 4) (pa_cons (pv 5) pa_nil))) pa_nil)))))
          (pss_one (ps_if (pt_cmpR op_ne (pv 4) (pv 5) (nomark _)) (pss_one (ps_ret pe_bl)) pss_nil)))))))))
      (pss_one (ps_ret pe_bl)))), ?_⟩
    refine ⟨_, rfl, _, rfl, by show 2 ≤ sizeLine; decide, fun t0 ht0 => ⟨by show 1 ≤ sizeLine; decide, fun ps hps => ⟨_, _, rfl, ?_⟩⟩⟩
    have n0p : t0 ≠ ps := ne_of_none upd_same hps
    have hpsH : H ps = none := by rw [upd_ne n0p.symm] at hps; exact hps
    refine ⟨fun m σ H' => ∃ (l : List (Addr × PyData)) (n : Nat) (o1 o2 : Option V), σ = [some a, some b, some (.ref ps), some (.int n), o1, o2] ∧ Same H H' ∧ H' ps = some (.lst (l.map fun q => .ref q.1)) ∧ (∀ q ∈ l, PairAt K H H' q.1 q.2) ∧ pend l n + n = szD d ∧ n ≤ l.length ∧ m = pend l n,
      ⟨_, [(t0, d)], 0, none, none, rfl, ((Same.refl H).new ht0).new hps, upd_same, fun q hq => ?_, ?_, Nat.zero_le _, rfl⟩, ?_⟩
    · cases List.mem_singleton.mp hq
      exact ⟨a, b, by rw [upd_ne n0p, upd_same], ha, hb⟩
    · simp only [pend, List.drop_zero, List.map_cons, List.map_nil, szL]
      omega
    rintro m σ H1 ⟨l, n, o1, o2, rfl, S1, hps1, hl1, hpe, hnl, rfl⟩
    refine ⟨_, rfl, _, rfl, ps, _, rfl, .inl (.of hps1), _, _, rfl, rfl, _, rfl, ?_⟩
    rw [List.length_map]
    refine ite2 (fun hlt => ?_) (fun _ => ?_)
    · have hlt' : n < l.length := by
        have z := of_decide_eq_true hlt
        omega
      refine ⟨fun σ' H' => ∃ (l' : List (Addr × PyData)) (o1 o2 : Option V), σ' = [some a, some b, some (.ref ps), some (.int ((n : Int) + 1)), o1, o2] ∧ Same H H' ∧ H' ps = some (.lst (l'.map fun q => .ref q.1)) ∧ (∀ q ∈ l', PairAt K H H' q.1 q.2) ∧ pend l' (n + 1) + (n + 1) = szD d ∧ n + 1 ≤ l'.length ∧ pend l' (n + 1) < pend l n,
        fun σ' H' ⟨l', o1, o2, e, h1, h2, h3, h4, h5, h6⟩ => ⟨_, h6, l', n + 1, o1, o2, e, h1, h2, h3, h4, h5, rfl⟩, ?_⟩
      obtain ⟨q, hq⟩ : ∃ q, l[n]? = some q := ⟨l[n], by simp [hlt']⟩
      obtain ⟨x, y, ht, hx, hy⟩ := hl1 q (List.mem_of_getElem? hq)
      have hxy : (l.map fun q => V.ref q.1)[n]? = some (.ref q.1) := by rw [List.getElem?_map, hq]; rfl
      refine ⟨_, rfl, _, rfl, ps, _, _, _, rfl, rfl, .of hps1, atI_nat hxy, q.1, _, rfl, .of ht, rfl, _, _, rfl, _, _, rfl, rfl, ?_⟩
      refine ⟨_, rfl, _, _, rfl, rfl, ?_⟩
      have ndq : q.1 ≠ ps := ne_of ht hps1 (by intro z; cases z)
      have hx1 := Dp.same S1 hx
      have hy1 := Dp.same S1 hy
      have stay : ∀ {H2 : Hp}, Same H1 H2 → ∀ q ∈ l, PairAt K H H2 q.1 q.2 := fun {H2} S q hq => by
        obtain ⟨x, y, e, h1, h2⟩ := hl1 q hq
        exact ⟨x, y, S _ _ e, h1, h2⟩
      have psz := szD_pos q.2
      have pst := pend_step hq []
      rw [List.append_nil] at pst
      simp only [List.map_nil, szL] at pst
      -- bool, str
      refine ⟨_, rfl, ?_⟩
      refine ⟨_, _, _, _, _, rfl, .ty _, ty_dp hx1, ki_bool hx1, ?_⟩
      refine ⟨_, rfl, ?_⟩
      refine ⟨_, _, _, _, _, rfl, .ty _, ty_dp hy1, ki_bool hy1, ?_⟩
      refine ⟨rfl, _, rfl, ?_⟩
      refine iteNS rfl ?_
      refine ⟨_, rfl, ?_⟩
      refine ⟨_, _, _, _, _, rfl, .ty _, ty_dp hx1, ki_str hx1, ?_⟩
      refine ⟨_, rfl, ?_⟩
      refine ⟨_, _, _, _, _, rfl, .ty _, ty_dp hy1, ki_str hy1, ?_⟩
      refine ⟨rfl, _, rfl, ?_⟩
      refine iteNS rfl ?_
      -- tuple or list
      refine ⟨_, rfl, by show 2 ≤ sizeLine; decide, fun u1 hu1 => ?_⟩
      refine ⟨_, _, _, _, _, _, rfl, upd_same, cls2, ty_dp (Dp.same ((Same.refl H1).new hu1) hx1), ki_seq hx1, ?_⟩
      refine ⟨_, rfl, by show 2 ≤ sizeLine; decide, fun u2 hu2 => ?_⟩
      refine ⟨_, _, _, _, _, _, rfl, upd_same, cls2, ty_dp (Dp.same (((Same.refl H1).new hu1).new hu2) hy1), ki_seq hy1, ?_⟩
      refine ⟨rfl, _, rfl, ?_⟩
      refine iteNS rfl ?_
      have S2 : Same H1 (upd (upd H1 u1 (.tup [V.ty "tuple", V.ty "list"])) u2 (.tup [V.ty "tuple", V.ty "list"])) := ((Same.refl H1).new hu1).new hu2
      generalize upd (upd H1 u1 (.tup [V.ty "tuple", V.ty "list"])) u2 (.tup [V.ty "tuple", V.ty "list"]) = H2 at S2 ⊢
      refine ⟨_, rfl, by show 2 ≤ sizeLine; decide, fun u3 hu3 => ?_⟩
      refine ⟨_, _, _, _, _, _, rfl, upd_same, cls2, ty_dp (Dp.same (S2.new hu3) hx1), ki_seq hy1, ?_⟩
      refine ⟨_, rfl, ?_⟩
      have S3 : Same H1 (upd H2 u3 (.tup [V.ty "tuple", V.ty "list"])) := S2.new hu3
      generalize upd H2 u3 (.tup [V.ty "tuple", V.ty "list"]) = H3 at S3 ⊢
      have hx3 := Dp.same S3 hx1
      have hy3 := Dp.same S3 hy1
      have hps3 := S3 _ _ hps1
      cases hd : isSq q.2 with
      | true =>
        obtain ⟨ax, ay, xs, ys, ds, rfl, rfl, hsq, hdx, hdy, hsz⟩ := dp_sq hx hy hd
        have hlx := hdx.len
        have hly := hdy.len
        have S03 : Same H H3 := S1.trans S3
        have q3 : (SqL K H3 ax xs ∧ SqL K H3 ay ys) ∨ (SqT K H3 ax xs ∧ SqT K H3 ay ys) := by
          rcases hsq with ⟨h1, h2⟩ | ⟨h1, h2⟩
          · exact .inl ⟨S03.seq h1, S03.seq h2⟩
          · exact .inr ⟨S03.seqT h1, S03.seqT h2⟩
        have qx : SqL K H3 ax xs ∨ SqT K H3 ax xs := q3.imp (·.1) (·.1)
        have qy : SqL K H3 ay ys ∨ SqT K H3 ay ys := q3.imp (·.2) (·.2)
        refine iteT ?_
        refine ⟨_, rfl, ?_⟩
        refine ⟨_, _, _, _, _, rfl, .ty _, ty_dp hx3, ki_tup hx3, ?_⟩
        refine ⟨_, rfl, ?_⟩
        refine ⟨_, _, _, _, _, rfl, .ty _, ty_dp hy3, ki_tup hy3, ?_⟩
        refine ⟨rfl, _, rfl, ?_⟩
        refine iteNS rfl ?_
        refine ⟨_, rfl, ax, xs, rfl, qx, ?_⟩
        refine ⟨_, rfl, ay, ys, rfl, qy, ?_⟩
        refine ⟨rfl, _, rfl, ?_⟩
        refine iteNS (by rw [hlx, hly]) ?_
        refine ⟨_, rfl, .inl ⟨rfl, _, .of hps3⟩, ?_⟩
        refine ⟨_, rfl, _, rfl, ax, ay, xs, ys, rfl, q3, by rw [hlx, hly], fun H' p ts S' hp hts hpt hnd hlt2 hp' htt => ?_⟩
        have pst2 := pend_step hq (ts.zip ds)
        have e1 : (ts.zip ds).map (fun q => V.ref q.1) = ts.map V.ref := by
          have e : (fun q : Addr × PyData => V.ref q.1) = V.ref ∘ Prod.fst := rfl
          rw [e, ← List.map_map, List.map_fst_zip (by omega)]
        have e2 : (ts.zip ds).map (fun q => q.2) = ds := List.map_snd_zip (by omega)
        rw [e2] at pst2
        have plen := pend_len (l ++ ts.zip ds) (n + 1)
        have hzl : (ts.zip ds).length = ts.length := by rw [List.length_zip]; omega
        rw [List.length_append, hzl] at plen
        refine ⟨ps, p, _, _, rfl, rfl, S' _ _ hps3, hp', ?_, ?_⟩
        · rw [List.length_map, List.length_map]
          have := sizeLine_eq
          omega
        · refine ⟨l ++ ts.zip ds, _, _, rfl, (S03.trans S').own hpsH, ?_, fun q' hq' => ?_, by omega, by rw [List.length_append]; omega, by omega⟩
          · rw [upd_same, List.map_append, e1]
          · rcases List.mem_append.mp hq' with hq' | hq'
            · obtain ⟨x', y', h1, h2, h3⟩ := stay (S3.trans S') q' hq'
              have nq : q'.1 ≠ ps := ne_of h1 (S' _ _ hps3) (by intro z; cases z)
              exact ⟨x', y', by rw [upd_ne nq]; exact h1, h2, h3⟩
            · obtain ⟨j, hj⟩ := List.mem_iff_getElem?.mp hq'
              obtain ⟨j1, j2⟩ := List.getElem?_zip_eq_some.mp hj
              obtain ⟨x', y', h1, h2, h3⟩ := htt j q'.1 j1
              obtain ⟨d1, g1, g2⟩ := hdx.get h1
              obtain ⟨d2, g3, g4⟩ := hdy.get h2
              rw [j2] at g1 g3
              cases g1
              cases g3
              have nq : q'.1 ≠ ps := fun z => by
                have := hts q'.1 (List.mem_of_getElem? j1)
                rw [z, hps3] at this
                cases this
              exact ⟨x', y', by rw [upd_ne nq]; exact h3, g2, g4⟩
      | false =>
        obtain ⟨rfl, hsc⟩ := dp_flat hx hy hd
        have h1 := szD_flat hd
        refine iteF ?_
        refine ⟨_, rfl, _, rfl, hsc, _, rfl, ?_⟩
        refine iteNS rfl ?_
        exact ⟨l, _, _, rfl, S1.trans S3, hps3, stay S3, by omega, by omega, by omega⟩
    · exact k _ S1
end
end K21
namespace K21
open PySem PySem.Spec PyProof.Rows L2 TL Lore
def Lo : List Nat := tl (Str.ofString "abcdefghijklmnopqrstuvwxyz")
def Ca : List Nat := tl (Str.ofString "ABCDEFGHIJKLMNOPQRSTUVWXYZ")
def Di : List Nat := tl (Str.ofString "0123456789")
def inRun (c : Nat) : Bool := decide (c ∈ Lo) || (decide (c ∈ Ca) || decide (c ∈ Di))
def keysV : List V := [.str (Str.ofString "count"), .str (Str.ofString "least"), .str (Str.ofString "most"), .str (Str.ofString "not")]
def signsS : List Str := [Str.ofString ":-", Str.ofString "<=", Str.ofString "!=", Str.ofString "(", Str.ofString ")", Str.ofString ",", Str.ofString ".", Str.ofString "<", Str.ofString "="]
def okName (r : List Nat) : Bool := decide (r.length ≤ 8)
def okNum (r : List Nat) : Bool := decide (r.length ≤ 3) && (decide (r = [48]) || !decide (r.getD 0 0 = 48))
def okVar (r : List Nat) : Bool := decide (r.getD 0 0 ∈ Ca) && (decide (r.length ≤ 2) && (decide (r.length = 1) || decide (r.getD 1 0 ∈ Di)))
/-- the kind of a run -/
def kindV (r : List Nat) : Option Str :=
  if (r.all fun c => decide (c ∈ Lo)) = true then (if inV (.str (mk r)) keysV = true then some (Str.ofString "key") else if okName r = true then some (Str.ofString "name") else none)
  else if (r.all fun c => decide (c ∈ Di)) = true then (if okNum r = true then some (Str.ofString "number") else none)
  else if okVar r = true then some (Str.ofString "variable") else none
/-- the first sign that stands ahead -/
def signV (l : List Nat) : Option Str := signsS.find? fun s => decide (l.take (tl s).length = tl s)
def optV : Option Str → V
  | none => .non
  | some x => .str x
/-- a line's rest, at a place: its words, and where one is none -/
inductive Lex : List Nat → Nat → List (Str × Str × Nat) → Option Nat → Prop where
  | nil (a : Nat) : Lex [] a [] none
  | note (r : List Nat) (a : Nat) : Lex (35 :: r) a [] none
  | blank {r : List Nat} {a : Nat} {ts : List (Str × Str × Nat)} {e : Option Nat} : Lex r (a + 1) ts e → Lex (32 :: r) a ts e
  | run {c : Nat} {u r : List Nat} {a : Nat} {k : Str} {ts : List (Str × Str × Nat)} {e : Option Nat} : (∀ d ∈ c :: u, inRun d = true) → (∀ d, r.head? = some d → inRun d = false) → kindV (c :: u) = some k → Lex r (a + (u.length + 1)) ts e →
      Lex (c :: (u ++ r)) a ((k, mk (c :: u), a + 1) :: ts) e
  | badRun {c : Nat} {u r : List Nat} {a : Nat} : (∀ d ∈ c :: u, inRun d = true) → (∀ d, r.head? = some d → inRun d = false) → kindV (c :: u) = none → Lex (c :: (u ++ r)) a [] (some (a + 1))
  | sign {c : Nat} {l : List Nat} {a : Nat} {s : Str} {ts : List (Str × Str × Nat)} {e : Option Nat} : inRun c = false → c ≠ 32 → c ≠ 35 → signV (c :: l) = some s → Lex ((c :: l).drop (tl s).length) (a + (tl s).length) ts e →
      Lex (c :: l) a ((Str.ofString "sign", s, a + 1) :: ts) e
  | badSign {c : Nat} {l : List Nat} {a : Nat} : inRun c = false → c ≠ 32 → c ≠ 35 → signV (c :: l) = none → Lex (c :: l) a [] (some (a + 1))
theorem run35 : inRun 35 = false := by decide +kernel
theorem run32 : inRun 32 = false := by decide +kernel
theorem Lex.inv {c : Nat} {l : List Nat} {a : Nat} {ts : List (Str × Str × Nat)} {e : Option Nat} (h : Lex (c :: l) a ts e) :
    (c = 35 ∧ ts = [] ∧ e = none) ∨ (c = 32 ∧ Lex l (a + 1) ts e) ∨
    (inRun c = true ∧ ∃ u r, l = u ++ r ∧ (∀ d ∈ c :: u, inRun d = true) ∧ (∀ d, r.head? = some d → inRun d = false) ∧ ((∃ k ts', kindV (c :: u) = some k ∧ ts = (k, mk (c :: u), a + 1) :: ts' ∧ Lex r (a + (u.length + 1)) ts' e) ∨ (kindV (c :: u) = none ∧ ts = [] ∧ e = some (a + 1)))) ∨
    (inRun c = false ∧ c ≠ 32 ∧ c ≠ 35 ∧ ((∃ s ts', signV (c :: l) = some s ∧ ts = (Str.ofString "sign", s, a + 1) :: ts' ∧ Lex ((c :: l).drop (tl s).length) (a + (tl s).length) ts' e) ∨ (signV (c :: l) = none ∧ ts = [] ∧ e = some (a + 1)))) := by
  generalize hx : c :: l = x at h
  cases h with
  | nil => cases hx
  | note r a => cases hx; exact .inl ⟨rfl, rfl, rfl⟩
  | blank h => cases hx; exact .inr (.inl ⟨rfl, h⟩)
  | run h1 h2 h3 h4 => cases hx; exact .inr (.inr (.inl ⟨h1 _ List.mem_cons_self, _, _, rfl, h1, h2, .inl ⟨_, _, h3, rfl, h4⟩⟩))
  | badRun h1 h2 h3 => cases hx; exact .inr (.inr (.inl ⟨h1 _ List.mem_cons_self, _, _, rfl, h1, h2, .inr ⟨h3, rfl, rfl⟩⟩))
  | sign h1 h2 h3 h4 h5 => cases hx; exact .inr (.inr (.inr ⟨h1, h2, h3, .inl ⟨_, _, h4, rfl, h5⟩⟩))
  | badSign h1 h2 h3 h4 => cases hx; exact .inr (.inr (.inr ⟨h1, h2, h3, .inr ⟨h4, rfl, rfl⟩⟩))
theorem run_eq {u r : List Nat} (h : ∀ d ∈ u, inRun d = true) (hr : ∀ d, r.head? = some d → inRun d = false) : (u ++ r).takeWhile inRun = u := by
  induction u with
  | nil =>
    cases r with
    | nil => rfl
    | cons c r =>
      have := hr c rfl
      simp [this]
  | cons c u ih =>
    have h1 := h c List.mem_cons_self
    simp only [List.cons_append, List.takeWhile_cons, h1, if_true]
    rw [ih fun d hd => h d (List.mem_cons_of_mem _ hd)]
theorem run_none {c : Nat} {l : List Nat} (h : inRun c = false) : (c :: l).takeWhile inRun = [] := by
  simp [List.takeWhile_cons, h]
theorem sign_len : ∀ s ∈ signsS, 1 ≤ (tl s).length := by decide +kernel
theorem signV_mem {l : List Nat} {s : Str} (h : signV l = some s) : s ∈ signsS ∧ l.take (tl s).length = tl s := by
  have := List.find?_some h
  exact ⟨List.mem_of_find?_eq_some h, of_decide_eq_true this⟩
end K21
namespace K21
open PySem PySem.Spec PyProof.Rows L2 TL Lore
/-- the module's names -/
structure Fx (K : PySem.W.Frag) (mg : Str → Option Value) : Prop where
  all : mg "all" = none
  len : mg "len" = none
  enumerate : mg "enumerate" = none
  tuple : mg "tuple" = none
  abs : mg "abs" = none
  int : mg "int" = none
  isinstance : mg "isinstance" = none
  bool : mg "bool" = none
  str : mg "str" = none
  list : mg "list" = none
  zip : mg "zip" = none
  range : mg "range" = none
  super : mg "super" = none
  LETTERS : ∃ t, mg "LETTERS" = some (.str (Str.ofString "abcdefghijklmnopqrstuvwxyz") t)
  CAPITALS : ∃ t, mg "CAPITALS" = some (.str (Str.ofString "ABCDEFGHIJKLMNOPQRSTUVWXYZ") t)
  DIGITS : ∃ t, mg "DIGITS" = some (.str (Str.ofString "0123456789") t)
  KEYS : ∃ a, mg "KEYS" = some (.ref a) ∧ ∀ H, SqT K H a keysV
  SIGNS : ∃ a, mg "SIGNS" = some (.ref a) ∧ ∀ H, SqT K H a (signsS.map V.str)
  MOST_SIGNS : ∃ t, mg "MOST_SIGNS" = some (.int 8 t)
  MOST_FIGURES : ∃ t, mg "MOST_FIGURES" = some (.int 3 t)
  NAME : ∃ t, mg "NAME" = some (.str (Str.ofString "name") t)
  KEY : ∃ t, mg "KEY" = some (.str (Str.ofString "key") t)
  VARIABLE : ∃ t, mg "VARIABLE" = some (.str (Str.ofString "variable") t)
  NUMBER : ∃ t, mg "NUMBER" = some (.str (Str.ofString "number") t)
  SIGN : ∃ t, mg "SIGN" = some (.str (Str.ofString "sign") t)
  END : ∃ t, mg "END" = some (.str (Str.ofString "end") t)
  BLANK : ∃ t, mg "BLANK" = some (.str (Str.ofString " ") t)
  NOTE : ∃ t, mg "NOTE" = some (.str (Str.ofString "#") t)
section
variable {P : Program} {w : World} {K : PySem.W.Frag} {mg : Str → Option Value} {base : Heap} {f : Addr} {fd : FuncData}
def spInRun : Sp := fun vs H Q _ => ∃ c : Nat, vs = [.str (mk [c])] ∧ Q (.bl (inRun c)) H
theorem sc_inrun : FnScope ["sign"] ["sign"] (defScope s_is_in_run) := ⟨rfl, rfl, rfl, by decide +kernel, rfl, by decide +kernel, by decide +kernel⟩
theorem ok_inrun (F : FnP K "is_in_run" s_is_in_run f fd) (X : Fx K mg) : FnOk P w K mg base CX0 1 f fd ["sign"] spInRun := by
  have nd := sc_inrun.nd
  refine F.ok sc_inrun (fun vs H Q E h => ?_) (fun cdv A outer s H vs Q E hr h => ?_)
  · obtain ⟨c, rfl, _⟩ := h
    rfl
  · obtain ⟨c, rfl, k⟩ := h
    refine ⟨_, PSs.nox (pss_one (ps_ret (pe_or (pe_cmpR op_in_sign (pv 0) (pe_gstr X.LETTERS) rfl) (pe_or (pe_cmpR op_in_sign (pv 0) (pe_gstr X.CAPITALS) rfl) (pe_one (pe_cmpR op_in_sign (pv 0) (pe_gstr X.DIGITS) rfl)))))), ?_⟩
    refine ⟨_, rfl, c, _, rfl, rfl, _, rfl, ?_⟩
    have e : inRun c = (decide (c ∈ Lo) || (decide (c ∈ Ca) || decide (c ∈ Di))) := rfl
    refine ite2 (fun h1 => ?_) (fun h1 => ?_)
    · have h1' : decide (c ∈ Lo) = true := h1
      rw [e, h1'] at k
      exact k
    · have h1' : decide (c ∈ Lo) = false := Bool.eq_false_iff.mpr h1
      refine ⟨_, rfl, c, _, rfl, rfl, _, rfl, ?_⟩
      refine ite2 (fun h2 => ?_) (fun h2 => ?_)
      · have h2' : decide (c ∈ Ca) = true := h2
        rw [e, h1', h2'] at k
        exact k
      · have h2' : decide (c ∈ Ca) = false := Bool.eq_false_iff.mpr h2
        rw [e, h1', h2'] at k
        exact ⟨_, rfl, c, _, rfl, rfl, k⟩
theorem cps_mk {r : List Nat} {i : Nat} : (mk r).cps[i]? = r[i]? := by simp [mk]
theorem cps_mks {r : List Nat} : (mk r).cps.size = r.length := by simp [mk]
theorem all_turn {r : List Nat} {f : Nat → Bool} {H1 : Hp} {D : Addr} {i c : Nat} (hr : r.length < sizeLine) (hc : (mk r).cps[i]? = some c) : ∃ acc, upd H1 D (.lst ((r.take i).map fun c => V.bl (f c))) D = some (.lst acc) ∧ acc.length < sizeLine ∧
    upd (upd H1 D (.lst ((r.take i).map fun c => V.bl (f c)))) D (.lst (acc ++ [V.bl (f c)])) = upd H1 D (.lst ((r.take (i + 1)).map fun c => V.bl (f c))) := by
  rw [cps_mk] at hc
  refine ⟨_, upd_same, ?_, ?_⟩
  · rw [List.length_map, List.length_take]
    omega
  · rw [upd_upd, List.take_add_one, hc]
    simp
theorem z48 : Str.ofString "0" = mk [48] := by decide +kernel
def spKind : Sp := fun vs H Q _ => ∃ r : List Nat, vs = [.str (mk r)] ∧ r ≠ [] ∧ r.length < sizeLine ∧ ∀ H', Same H H' → Q (optV (kindV r)) H'
theorem sc_kind : FnScope ["run", "sign"] ["run"] (defScope s_kind_of_run) := ⟨rfl, rfl, rfl, by decide +kernel, rfl, by decide +kernel, by decide +kernel⟩
theorem kindV_eq (r : List Nat) : kindV r = if (r.all fun c => decide (c ∈ Lo)) = true then (if inV (.str (mk r)) keysV = true then some (Str.ofString "key") else if okName r = true then some (Str.ofString "name") else none)
  else if (r.all fun c => decide (c ∈ Di)) = true then (if okNum r = true then some (Str.ofString "number") else none)
  else if okVar r = true then some (Str.ofString "variable") else none := rfl
theorem ok_kind (F : FnP K "kind_of_run" s_kind_of_run f fd) (X : Fx K mg) : FnOk P w K mg base CX0 1 f fd ["run"] spKind := by
  have nd := sc_kind.nd
  obtain ⟨ka, gK, hK⟩ := X.KEYS
  refine F.ok sc_kind (fun vs H Q E h => ?_) (fun cdv A outer s H vs Q E hr h => ?_)
  · obtain ⟨c, rfl, _⟩ := h
    rfl
  · obtain ⟨r, rfl, hne, hlt, k⟩ := h
    refine ⟨_, PSs.nox (pss_cons (ps_if (pt_val (pe_callB (cr_all rfl) (by rfl) X.all boot_all (pa_cons
          (pe_lc (own := [("sign", 1)]) (g := gName 1) (tt := tYes) rfl nd (pi_str (pv 0)) (blkOk_by (N := ["run", "sign"]) (sc := defScope s_kind_of_run) (by decide +kernel)) (fun _ _ _ _ _ => pg_name (i := 1) nd rfl (.inl rfl)) (fun _ _ _ _ _ => pts_nil)
            (fun _ _ _ _ _ => pe_cmpR op_in_sign (pv 1) (pe_gstr X.LETTERS) rfl)) pa_nil)))
        (pss_cons (ps_if (pt_cmpR op_in_seq (pv 0) (pe_gref gK) rfl) (pss_one (ps_ret (pe_gstr X.KEY))) pss_nil)
        (pss_one (ps_ret (pe_ifExp (pt_cmpR op_le (pe_callB call_len_str (by rfl) X.len boot_len (pa_cons (pv 0) pa_nil)) (pe_gint X.MOST_SIGNS) (nomark _)) (pe_gstr X.NAME) pe_non)))) pss_nil)
      (pss_cons (ps_if (pt_val (pe_callB (cr_all rfl) (by rfl) X.all boot_all (pa_cons
          (pe_lc (own := [("sign", 1)]) (g := gName 1) (tt := tYes) rfl nd (pi_str (pv 0)) (blkOk_by (N := ["run", "sign"]) (sc := defScope s_kind_of_run) (by decide +kernel)) (fun _ _ _ _ _ => pg_name (i := 1) nd rfl (.inl rfl)) (fun _ _ _ _ _ => pts_nil)
            (fun _ _ _ _ _ => pe_cmpR op_in_sign (pv 1) (pe_gstr X.DIGITS) rfl)) pa_nil)))
        (pss_one (ps_ret (pe_ifExp (PW.pt (pw_and (pt_cmpR op_le (pe_callB call_len_str (by rfl) X.len boot_len (pa_cons (pv 0) pa_nil)) (pe_gint X.MOST_FIGURES) (nomark _)) (pw_and1 (PW.pt (pw_or (pt_cmpR op_eq (pv 0) pe_str (nomark _)) (pw_or1 (pt_cmpR op_ne (pe_ix ix_str (pv 0) pe_int (fun _ _ => rfl)) pe_str (nomark _)))))))) (pe_gstr X.NUMBER) pe_non))) pss_nil)
      (pss_cons (ps_if (PW.pt (pw_and (pt_cmpR op_in_sign (pe_ix ix_str (pv 0) pe_int (fun _ _ => rfl)) (pe_gstr X.CAPITALS) rfl) (pw_and (pt_cmpR op_le (pe_callB call_len_str (by rfl) X.len boot_len (pa_cons (pv 0) pa_nil)) pe_int (nomark _))
          (pw_and1 (PW.pt (pw_or (pt_cmpR op_eq (pe_callB call_len_str (by rfl) X.len boot_len (pa_cons (pv 0) pa_nil)) pe_int (nomark _)) (pw_or1 (pt_cmpR op_in_sign (pe_ix ix_str (pv 0) pe_int (fun _ _ => rfl)) (pe_gstr X.DIGITS) rfl))))))))
        (pss_one (ps_ret (pe_gstr X.VARIABLE))) pss_nil)
      (pss_one (ps_ret pe_non))))), ?_⟩
    have fin : ∀ H', Same H H' → Q (optV (kindV r)) H' := k
    rw [kindV_eq] at fin
    have hle : (mk r).length ≤ sizeLine := by rw [len_mk]; omega
    have e1 : ∀ g : Nat → Bool, (r.map g).all id = r.all g := fun g => by rw [List.all_map]; rfl
    refine ⟨_, rfl, _, rfl, fun D hD => lc_it walk_str (fun i H' => H' = upd H D (.lst ((r.take i).map fun c => V.bl (decide (c ∈ Lo))))) rfl (fun _ _ _ _ => trivial) (fun i x H2 H3 hi e y => ?_) (fun H1 eH => ?_)⟩
    · obtain ⟨rfl, c, hc, rfl⟩ := y
      subst e
      exact ⟨rfl, _, rfl, c, _, rfl, rfl, all_turn hlt hc⟩
    rw [cps_mks, List.take_length] at eH
    have S1 : Same H H1 := by rw [eH]; exact (Same.refl H).new hD
    refine ⟨D, r.map fun c => decide (c ∈ Lo), rfl, .of (by rw [eH, upd_same, List.map_map]; rfl), _, rfl, ?_⟩
    rw [e1]
    refine ite2 (fun h1 => ?_) (fun h1 => ?_)
    · rw [if_pos h1] at fin
      refine ⟨_, rfl, ka, keysV, rfl, .inr (hK _), rfl, by rfl, _, rfl, ?_⟩
      refine ite2 (fun h2 => ?_) (fun h2 => ?_)
      · have h2' : inV (.str (mk r)) keysV = true := h2
        rw [if_pos h2'] at fin
        exact fin _ S1
      · have h2' : ¬ (inV (.str (mk r)) keysV = true) := h2
        rw [if_neg h2'] at fin
        refine ⟨_, rfl, _, rfl, hle, _, _, rfl, rfl, _, rfl, ?_⟩
        refine ite2 (fun h3 => ?_) (fun h3 => ?_)
        · have h3' : okName r = true := by
            have z := of_decide_eq_true h3
            rw [len_mk] at z
            exact decide_eq_true (by omega)
          rw [if_pos h3'] at fin
          exact fin _ S1
        · have h3' : ¬ (okName r = true) := fun z => h3 (by
            have z' := of_decide_eq_true z
            exact decide_eq_true (by rw [len_mk]; omega))
          rw [if_neg h3'] at fin
          exact fin _ S1
    · rw [if_neg h1] at fin
      refine ⟨_, rfl, _, rfl, fun D2 hD2 => lc_it walk_str (fun i H' => H' = upd H1 D2 (.lst ((r.take i).map fun c => V.bl (decide (c ∈ Di))))) rfl (fun _ _ _ _ => trivial) (fun i x H2 H3 hi e y => ?_) (fun H2 eH2 => ?_)⟩
      · obtain ⟨rfl, c, hc, rfl⟩ := y
        subst e
        exact ⟨rfl, _, rfl, c, _, rfl, rfl, all_turn hlt hc⟩
      rw [cps_mks, List.take_length] at eH2
      have S2 : Same H H2 := by rw [eH2]; exact S1.new hD2
      refine ⟨D2, r.map fun c => decide (c ∈ Di), rfl, .of (by rw [eH2, upd_same, List.map_map]; rfl), _, rfl, ?_⟩
      rw [e1]
      obtain ⟨c, u, rfl⟩ : ∃ c u, r = c :: u := by
        cases r with
        | nil => exact absurd rfl hne
        | cons c u => exact ⟨c, u, rfl⟩
      have c0 : (c :: u)[0]? = some c := rfl
      have d0 : ∀ a : Nat, decide (V.str (mk [a]) = V.str (Str.ofString "0")) = decide (a = 48) := fun a => by
        rw [z48, dec_mk]
        by_cases h : a = 48
        · subst h; rfl
        · rw [decide_eq_false h, decide_eq_false fun z => h (by simpa using z)]
      have dr : decide (V.str (mk (c :: u)) = V.str (Str.ofString "0")) = decide (c :: u = [48]) := by rw [z48, dec_mk]
      refine ite2 (fun h2 => ?_) (fun h2 => ?_)
      · rw [if_pos h2] at fin
        refine ⟨_, rfl, _, rfl, hle, _, _, rfl, rfl, _, rfl, ?_⟩
        refine ite2 (fun h3 => ?_) (fun h3 => ?_)
        · have h3' : decide ((c :: u).length ≤ 3) = true := by
            have z := of_decide_eq_true h3
            rw [len_mk] at z
            exact decide_eq_true (by omega)
          refine ⟨_, rfl, rfl, _, rfl, ?_⟩
          refine ite2 (fun h4 => ?_) (fun h4 => ?_)
          · have h4' := dr ▸ h4
            have ok : okNum (c :: u) = true := by unfold okNum; rw [h3', h4']; rfl
            rw [if_pos ok] at fin
            exact iteT (fin _ S2)
          · have h4' : decide (c :: u = [48]) = false := Bool.eq_false_iff.mpr (dr ▸ h4)
            refine ⟨_, rfl, _, 0, c, rfl, rfl, hle, atI_mk (i := 0) c0, rfl, _, rfl, ?_⟩
            have ok : okNum (c :: u) = !decide (V.str ⟨#[c]⟩ = V.str (Str.ofString "0")) := by
              unfold okNum
              rw [h3', h4']
              show _ = !decide (V.str (mk [c]) = V.str (Str.ofString "0"))
              rw [d0]
              rfl
            rw [ok] at fin
            refine ite2 (fun h5 => ?_) (fun h5 => ?_)
            · rw [if_pos h5] at fin
              exact fin _ S2
            · rw [if_neg h5] at fin
              exact fin _ S2
        · have h3' : decide ((c :: u).length ≤ 3) = false := Bool.eq_false_iff.mpr fun z => h3 (by
            have z' := of_decide_eq_true z
            exact decide_eq_true (by rw [len_mk]; omega))
          have ok : ¬ okNum (c :: u) = true := by unfold okNum; rw [h3', Bool.false_and]; exact Bool.false_ne_true
          rw [if_neg ok] at fin
          exact iteF (fin _ S2)
      · rw [if_neg h2] at fin
        have no : okVar (c :: u) = false → Q (.non) H2 := fun z => by
          rw [z] at fin
          exact fin _ S2
        refine ⟨_, rfl, _, 0, c, rfl, rfl, hle, atI_mk (i := 0) c0, c, _, rfl, rfl, _, rfl, ?_⟩
        refine ite2 (fun h3 => ?_) (fun h3 => ?_)
        · have h3' : decide ((c :: u).getD 0 0 ∈ Ca) = true := h3
          refine ⟨_, rfl, _, rfl, hle, _, _, rfl, rfl, _, rfl, ?_⟩
          refine ite2 (fun h4 => ?_) (fun h4 => ?_)
          · have h4' : decide ((c :: u).length ≤ 2) = true := by
              have z := of_decide_eq_true h4
              rw [len_mk] at z
              exact decide_eq_true (by omega)
            refine ⟨_, rfl, _, rfl, hle, rfl, _, rfl, ?_⟩
            refine ite2 (fun h5 => ?_) (fun h5 => ?_)
            · have h5' : decide ((c :: u).length = 1) = true := by
                have z := V.int.inj (of_decide_eq_true h5)
                rw [len_mk] at z
                exact decide_eq_true (by omega)
              have ok : okVar (c :: u) = true := by unfold okVar; rw [h3', h4', h5']; rfl
              rw [if_pos ok] at fin
              exact iteT (fin _ S2)
            · have h5' : decide ((c :: u).length = 1) = false := Bool.eq_false_iff.mpr fun z => h5 (by
                have z' := of_decide_eq_true z
                exact decide_eq_true (by rw [len_mk, z']; rfl))
              obtain ⟨b, u', rfl⟩ : ∃ b u', u = b :: u' := by
                cases u with
                | nil => exact absurd h5' (by simp)
                | cons b u' => exact ⟨b, u', rfl⟩
              refine ⟨_, rfl, _, 1, b, rfl, rfl, hle, atI_mk (i := 1) (l := c :: b :: u') rfl, b, _, rfl, rfl, _, rfl, ?_⟩
              have ok : okVar (c :: b :: u') = decide (b ∈ Di) := by unfold okVar; rw [h3', h4', h5']; rfl
              rw [ok] at fin
              refine ite2 (fun h6 => ?_) (fun h6 => ?_)
              · have h6' : decide (b ∈ Di) = true := h6
                rw [if_pos h6'] at fin
                exact fin _ S2
              · have h6' : ¬ decide (b ∈ Di) = true := h6
                rw [if_neg h6'] at fin
                exact fin _ S2
          · have h4' : decide ((c :: u).length ≤ 2) = false := Bool.eq_false_iff.mpr fun z => h4 (by
              have z' := of_decide_eq_true z
              exact decide_eq_true (by rw [len_mk]; omega))
            exact iteF (no (by unfold okVar; rw [h4', Bool.false_and, Bool.and_false]))
        · have h3' : decide ((c :: u).getD 0 0 ∈ Ca) = false := Bool.eq_false_iff.mpr h3
          exact iteF (no (by unfold okVar; rw [h3', Bool.false_and]))
end
end K21
namespace K21
open PySem PySem.Spec PyProof.Rows L2 TL Lore
section
variable {P : Program} {w : World} {K : PySem.W.Frag} {mg : Str → Option Value} {base : Heap} {f : Addr} {fd : FuncData}
theorem tw_get {p : Nat → Bool} : ∀ {l : List Nat} {j : Nat}, j < (l.takeWhile p).length → ∃ c, l[j]? = some c ∧ p c = true
  | [], j, h => absurd h (by simp)
  | c :: l, j, h => by
    rw [List.takeWhile_cons] at h
    cases e : p c with
    | false => rw [e] at h; simp at h
    | true =>
      rw [e] at h
      cases j with
      | zero => exact ⟨c, rfl, e⟩
      | succ j => exact tw_get (l := l) (j := j) (by simpa using h)
theorem tw_end {p : Nat → Bool} : ∀ {l : List Nat} {c : Nat}, l[(l.takeWhile p).length]? = some c → p c = false
  | [], c, h => by simp at h
  | d :: l, c, h => by
    rw [List.takeWhile_cons] at h
    cases e : p d with
    | false =>
      rw [e] at h
      simp at h
      rw [← h]
      exact e
    | true =>
      rw [e] at h
      exact tw_end (l := l) (by simpa using h)
def spRunAt : Sp := fun vs H Q _ => ∃ (l : List Nat) (a : Nat), vs = [.str (mk l), .int (a : Int)] ∧ a ≤ l.length ∧ l.length < sizeLine ∧ Q (.str (mk ((l.drop a).takeWhile inRun))) H
theorem sc_runat : FnScope ["line", "at", "end"] ["line", "at"] (defScope s_run_at) := ⟨rfl, rfl, rfl, by decide +kernel, rfl, by decide +kernel, by decide +kernel⟩
theorem ok_runat (F : FnP K "run_at" s_run_at f fd) (X : Fx K mg) (I : Cal P w K mg base CX0 1 "is_in_run" ["sign"] spInRun) : FnOk P w K mg base CX0 2 f fd ["line", "at"] spRunAt := by
  have nd := sc_runat.nd
  refine F.ok sc_runat (fun vs H Q E h => ?_) (fun cdv A outer s H vs Q E hr h => ?_)
  · obtain ⟨l, a, rfl, _⟩ := h
    rfl
  · obtain ⟨l, a, rfl, hal, hlt, k⟩ := h
    refine ⟨_, PSs.nox (pss_cons (ps_set (i := 2) nd rfl (.inl rfl) (pv 1))
      (pss_cons (ps_while PassesOwn.never (PW.pt (pw_and (pt_cmpR op_lt (pv 2) (pe_callB call_len_str (by rfl) X.len boot_len (pa_cons (pv 0) pa_nil)) (nomark _)) (pw_and1 (pt_val (pe_cal I hr pass0 (pa_cons (pe_ix ix_str (pv 0) (pv 2) (fun _ _ => rfl)) pa_nil))))))
        (pss_one (ps_aug (i := 2) nd rfl (.inl rfl) pe_int ip_add)))
      (pss_one (ps_ret (pe_slice sl_str (pv 0) (po_some (pv 1)) (po_some (pv 2))))))), ?_⟩
    have hle : (mk l).length ≤ sizeLine := by rw [len_mk]; omega
    have hR : (l.drop a).takeWhile inRun = ((l.drop a).take ((l.drop a).takeWhile inRun).length) := (take_run inRun _).symm
    have hRl : ((l.drop a).takeWhile inRun).length ≤ (l.drop a).length := by
      rw [hR, List.length_take]
      exact Nat.min_le_right _ _
    have hend : ∀ c, l[a + ((l.drop a).takeWhile inRun).length]? = some c → inRun c = false := fun c hc => tw_end (l := l.drop a) (by rw [List.getElem?_drop]; exact hc)
    have hget : ∀ j, j < ((l.drop a).takeWhile inRun).length → ∃ c, l[a + j]? = some c ∧ inRun c = true := fun j hj => by
      obtain ⟨c, h1, h2⟩ := tw_get hj
      rw [List.getElem?_drop] at h1
      exact ⟨c, h1, h2⟩
    rw [List.length_drop] at hRl
    generalize ((l.drop a).takeWhile inRun).length = n at hR hRl hend hget
    refine ⟨_, rfl, ?_⟩
    refine ⟨fun m σ H' => ∃ j : Nat, σ = [some (.str (mk l)), some (.int (a : Int)), some (.int ((a + j : Nat) : Int))] ∧ H' = H ∧ j ≤ n ∧ m = n - j, ⟨_, 0, rfl, rfl, Nat.zero_le _, rfl⟩, ?_⟩
    rintro m σ H' ⟨j, rfl, rfl, hj, rfl⟩
    have stop : ∀ {N : Prop}, j = n → (j = n → N) → N := fun h k => k h
    have ret : j = n → tRet (tSl rSlS (tVar 0) (tPart (tVar 1)) (tPart (tVar 2))) { nx := fun _ H' => Q V.non H', rt := Q } [some (.str (mk l)), some (.int (a : Int)), some (.int ((a + j : Nat) : Int))] H' := fun e => by
      subst e
      refine ⟨_, rfl, _, rfl, _, rfl, _, rfl, _, rfl, _, rfl, hle, ?_⟩
      rw [cutS_nat, show a + j - a = j by omega, ← hR]
      exact k
    refine ⟨_, rfl, _, rfl, _, rfl, hle, _, _, rfl, rfl, _, rfl, ?_⟩
    rw [len_mk]
    refine ite2 (fun h1 => ?_) (fun h1 => ?_)
    · have h1' := of_decide_eq_true h1
      have hc : l[a + j]? = some l[a + j] := by simp [show a + j < l.length by omega]
      refine ⟨_, rfl, _, rfl, _, _, _, rfl, rfl, hle, atI_mk hc, l[a + j], rfl, _, rfl, ?_⟩
      refine ite2 (fun h2 => ?_) (fun h2 => ?_)
      · have hjn : j < n := by
          rcases Nat.lt_or_ge j n with z | z
          · exact z
          · have e : j = n := by omega
            have := hend l[a + j] (by rw [← e]; exact hc)
            rw [this] at h2
            cases h2
        refine ⟨fun σ' H2 => σ' = [some (.str (mk l)), some (.int (a : Int)), some (.int ((a + (j + 1) : Nat) : Int))] ∧ H2 = H', fun σ' H2 ⟨e1, e2⟩ => ⟨_, by omega, j + 1, e1, e2, by omega, rfl⟩, ?_⟩
        refine ⟨_, rfl, _, _, rfl, rfl, ?_, rfl⟩
        have e : ((a + (j + 1) : Nat) : Int) = ((a + j : Nat) : Int) + 1 := by omega
        rw [e]
        rfl
      · refine ret ?_
        rcases Nat.lt_or_ge j n with z | z
        · obtain ⟨c, h3, h4⟩ := hget j z
          rw [hc] at h3
          cases h3
          exact absurd h4 h2
        · omega
    · refine iteF (ret ?_)
      rcases Nat.lt_or_ge j n with z | z
      · obtain ⟨c, h3, h4⟩ := hget j z
        have : a + j < l.length := by
          rcases Nat.lt_or_ge (a + j) l.length with y | y
          · exact y
          · rw [List.getElem?_eq_none y] at h3
            cases h3
        exact absurd (decide_eq_true (by omega)) h1
      · omega
theorem find_at {α : Type} {p : α → Bool} : ∀ {xs : List α} {i : Nat} {s : α}, (∀ j, j < i → ∀ s, xs[j]? = some s → p s = false) → xs[i]? = some s → p s = true → xs.find? p = some s
  | [], i, s, _, h, _ => by simp at h
  | x :: xs, 0, s, _, h, hp => by
    cases h
    rw [List.find?_cons, hp]
  | x :: xs, i + 1, s, hb, h, hp => by
    have := hb 0 (by omega) x rfl
    rw [List.find?_cons, this]
    exact find_at (i := i) (fun j hj s hs => hb (j + 1) (by omega) s (by simpa using hs)) (by simpa using h) hp
theorem find_not {α : Type} {p : α → Bool} {xs : List α} (h : ∀ j, j < xs.length → ∀ s, xs[j]? = some s → p s = false) : xs.find? p = none := by
  rw [List.find?_eq_none]
  intro x hx
  obtain ⟨j, hj⟩ := List.mem_iff_getElem?.mp hx
  have : j < xs.length := by
    rcases Nat.lt_or_ge j xs.length with y | y
    · exact y
    · rw [List.getElem?_eq_none y] at hj
      cases hj
  rw [h j this x hj]
  exact Bool.false_ne_true
def spSignAt : Sp := fun vs H Q _ => ∃ (l : List Nat) (a : Nat), vs = [.str (mk l), .int (a : Int)] ∧ l.length < sizeLine ∧ Q (optV (signV (l.drop a))) H
theorem sc_signat : FnScope ["line", "at", "sign"] ["line", "at"] (defScope s_sign_at) := ⟨rfl, rfl, rfl, by decide +kernel, rfl, by decide +kernel, by decide +kernel⟩
theorem ok_signat (F : FnP K "sign_at" s_sign_at f fd) (X : Fx K mg) : FnOk P w K mg base CX0 1 f fd ["line", "at"] spSignAt := by
  have nd := sc_signat.nd
  obtain ⟨sa, gS, hS⟩ := X.SIGNS
  refine F.ok sc_signat (fun vs H Q E h => ?_) (fun cdv A outer s H vs Q E hr h => ?_)
  · obtain ⟨l, a, rfl, _⟩ := h
    rfl
  · obtain ⟨l, a, rfl, hlt, k⟩ := h
    refine ⟨_, PSs.nox (pss_cons (ps_for PassesOwn.never rfl (pi_tup (pe_gref gS)) (pg_name (i := 2) nd rfl (.inl rfl))
        (pss_one (ps_if (pt_cmpR op_eq (pe_slice sl_str (pv 0) (po_some (pv 1)) (po_some (pe_op op_add (pv 1) (pe_callB call_len_str (by rfl) X.len boot_len (pa_cons (pv 2) pa_nil))))) (pv 2) (nomark _)) (pss_one (ps_ret (pv 2))) pss_nil)))
      (pss_one (ps_ret pe_non))), ?_⟩
    have hle : (mk l).length ≤ sizeLine := by rw [len_mk]; omega
    refine ⟨sa, rfl, ⟨_, hS _⟩, ?_⟩
    refine for_tup (xs := signsS.map V.str) (fun i σ H' => (∃ o, σ = [some (.str (mk l)), some (.int (a : Int)), o]) ∧ H' = H ∧ ∀ j, j < i → ∀ s, signsS[j]? = some s → (decide ((l.drop a).take (tl s).length = tl s)) = false)
      ⟨⟨none, rfl⟩, rfl, fun j hj => absurd hj (Nat.not_lt_zero _)⟩ (fun _ _ _ _ _ => hS _) (fun i x σ H' hx hp => ?_) (fun σ H' hp => ?_)
    · obtain ⟨⟨o, rfl⟩, rfl, hb⟩ := hp
      rw [List.getElem?_map] at hx
      cases hs : signsS[i]? with
      | none => rw [hs] at hx; cases hx
      | some s =>
        rw [hs] at hx
        cases hx
        have hsl : s.length ≤ sizeLine := by
          have : ∀ s ∈ signsS, s.length ≤ 2 := by decide +kernel
          have := this s (List.mem_of_getElem? hs)
          have := sizeLine_eq
          omega
        refine ⟨_, rfl, _, rfl, _, rfl, _, rfl, _, rfl, _, rfl, hsl, _, _, rfl, rfl, _, rfl, _, rfl, hle, _, rfl, rfl, _, rfl, ?_⟩
        have e : cutS (mk l) (some (a : Int)) (some ((a : Int) + (s.length : Int))) = mk ((l.drop a).take (tl s).length) := by
          rw [show (a : Int) + (s.length : Int) = ((a + s.length : Nat) : Int) by omega, cutS_nat, show a + s.length - a = s.length by omega, len_tl]
        rw [e]
        have e2 : decide (V.str (mk ((l.drop a).take (tl s).length)) = V.str s) = decide ((l.drop a).take (tl s).length = tl s) := by
          have : V.str s = V.str (mk (tl s)) := by rw [mk_tl']
          rw [this, dec_mk]
        refine ite2 (fun h1 => ?_) (fun h1 => ?_)
        · refine ⟨_, rfl, ?_⟩
          have : signV (l.drop a) = some s := find_at hb hs (e2 ▸ h1)
          rw [this] at k
          exact k
        · refine ⟨⟨_, rfl⟩, rfl, fun j hj s' hs' => ?_⟩
          rcases Nat.lt_or_ge j i with z | z
          · exact hb j z s' hs'
          · have : j = i := by omega
            subst this
            rw [hs] at hs'
            cases hs'
            exact Bool.eq_false_iff.mpr (e2 ▸ h1)
    · obtain ⟨⟨o, rfl⟩, rfl, hb⟩ := hp
      have : signV (l.drop a) = none := find_not fun j hj => hb j (by rw [List.length_map]; exact hj)
      rw [this] at k
      exact k
end
end K21
namespace K21
open PySem PySem.Spec PyProof.Rows L2 TL Lore LoreX
theorem passT {X : Cx} {E : XK} (tk : Takes X (fun cls d _ H => E cls d H)) : Passes (L2.CX X.prog X.w) X E := fun _ _ _ _ e s' I c => tk e s' (XE.of_call I (fun _ _ _ h => h) c)
abbrev Tok4 : Type := Str × Str × Nat × Nat
def T4 (H : Hp) (t : Addr) (k : Tok4) : Prop := H t = some (.tup [.str k.1, .str k.2.1, .int (k.2.2.1 : Nat), .int (k.2.2.2 : Nat)])
/-- a list of words at p -/
def ToksL (H : Hp) (p : Addr) (ts : List Tok4) : Prop := ∃ l : List (Addr × Tok4), H p = some (.lst (l.map fun q => .ref q.1)) ∧ (∀ q ∈ l, T4 H q.1 q.2) ∧ l.map (·.2) = ts
def at_line (n : Nat) (t : Str × Str × Nat) : Tok4 := (t.1, t.2.1, n, t.2.2)
/-- what reading leads to: the words in a new list, or the error's place -/
def xdOf (n c : Nat) : HO := .xd [(Str.ofString "column", .int (c : Nat)), (Str.ofString "line", .int (n : Nat))]
def LineTo (C : Addr) (n : Nat) (ts : List (Str × Str × Nat)) (H : Hp) (Q : VK) (E : XK) : Option Nat → Prop
  | none => ∀ p H', Same H H' → H p = none → ToksL H' p (ts.map (at_line n)) → Q (.ref p) H'
  | some c => ∀ d H', Same H H' → H d = none → H' d = some (xdOf n c) → E (.ref C) (some d) H'
def spLine (C : Addr) : Sp := fun vs H Q E => ∃ (l : List Nat) (n : Nat) (ts : List (Str × Str × Nat)) (e : Option Nat), vs = [.str (mk l), .int (n : Int)] ∧ l.length < 1000000 ∧ Lex l 0 ts e ∧ LineTo C n ts H Q E e
theorem n35 : Str.ofString "#" = mk [35] := by decide +kernel
theorem n32 : Str.ofString " " = mk [32] := by decide +kernel
theorem nE : Str.ofString "" = mk [] := by decide +kernel
section
variable {P : Program} {w : World} {K : PySem.W.Frag} {mg : Str → Option Value} {base : Heap} {f : Addr} {fd : FuncData}
theorem sc_line : FnScope ["line", "number", "found", "at", "run", "word", "kind"] ["line", "number"] (defScope s_words_of_line) := ⟨rfl, rfl, rfl, by decide +kernel, rfl, by decide +kernel, by decide +kernel⟩
theorem ok_line {C : Addr} (F : FnP K "words_of_line" s_words_of_line f fd) (X : Fx K mg) (T : Exc2 P w K mg base "BadText" C "line" "column") (R : Cal P w K mg base CX0 2 "run_at" ["line", "at"] spRunAt) (S : Cal P w K mg base CX0 1 "sign_at" ["line", "at"] spSignAt)
    (D : Cal P w K mg base CX0 1 "kind_of_run" ["run"] spKind) : FnOk P w K mg base (L2.CX P w) 3 f fd ["line", "number"] (spLine C) := by
  have nd := sc_line.nd
  refine F.ok sc_line (fun vs H Q E h => ?_) (fun cdv A outer s H vs Q E hr h => ?_)
  · obtain ⟨l, n, ts, e, rfl, _⟩ := h
    rfl
  · obtain ⟨l, n, ts, e, rfl, hlt, hL, hE⟩ := h
    refine ⟨_, pss_cons (ps_par (i := 2) (j := 3) (by rfl) nd rfl rfl (by decide) rfl rfl (pa_cons (pe_lst pa_nil) (pa_cons pe_int pa_nil)) (by rfl))
      (pss_cons (ps_while (passes_of rfl) (PW.pt (pw_and (pt_cmpR op_lt (pv 3) (pe_callB call_len_str (by rfl) X.len boot_len (pa_cons (pv 0) pa_nil)) (nomark _)) (pw_and1 (pt_cmpR op_ne (pe_ix ix_str (pv 0) (pv 3) (fun _ _ => rfl)) (pe_gstr X.NOTE) (nomark _)))))
        (pss_cons (ps_set (i := 4) nd rfl (.inl rfl) (pe_cal R hr pass0 (pa_cons (pv 0) (pa_cons (pv 3) pa_nil))))
        (pss_cons (ps_if (pt_cmpR op_eq (pe_ix ix_str (pv 0) (pv 3) (fun _ _ => rfl)) (pe_gstr X.BLANK) (nomark _)) (pss_cons (ps_aug (i := 3) nd rfl (.inl rfl) pe_int ip_add) (pss_one ps_continue)) pss_nil)
        (pss_cons (ps_set (i := 5) nd rfl (.inl rfl) (pe_ifExp (pt_cmpR op_ne (pv 4) pe_str (nomark _)) (pv 4) (pe_cal S (hr.mono (by decide)) pass0 (pa_cons (pv 0) (pa_cons (pv 3) pa_nil)))))
        (pss_cons (ps_set (i := 6) nd rfl (.inl rfl) (pe_ifExp (pt_cmpR op_eq (pv 4) pe_str (nomark _)) (pe_gstr X.SIGN) (pe_cal D (hr.mono (by decide)) pass0 (pa_cons (pv 4) pa_nil))))
        (pss_cons (ps_if (PW.pt (pw_or (pt_cmpR op_isN (pv 5) pe_non (nomark _)) (pw_or1 (pt_cmpR op_isN (pv 6) pe_non (nomark _))))) (pss_one (ps_raise rfl (takes_of rfl rfl rfl rfl) (pmk2 T hr rfl (pa_cons (pv 1) (pa_cons (pe_op op_add (pv 3) pe_int) pa_nil))))) pss_nil)
        (pss_cons (ps_expr (pe_bm PySem.F.plainAttrs_list PySem.F.slot_list_append PySem.F.type_list_append mt_append (pv 2) (pa_cons (pe_tup (pa_cons (pv 6) (pa_cons (pv 5) (pa_cons (pv 1) (pa_cons (pe_op op_add (pv 3) pe_int) pa_nil))))) pa_nil)))
        (pss_one (ps_aug (i := 3) nd rfl (.inl rfl) (pe_callB call_len_str (by rfl) X.len boot_len (pa_cons (pv 5) pa_nil)) ip_add)))))))))
      (pss_one (ps_ret (pv 2)))), ?_⟩
    have hz := sizeLine_eq
    have hle : (mk l).length ≤ sizeLine := by rw [len_mk]; omega
    refine ⟨by show 0 ≤ sizeLine; omega, fun p hp => ⟨_, _, rfl, ?_⟩⟩
    refine ⟨fun m σ H' => ∃ (a : Nat) (l0 : List (Addr × Tok4)) (rest : List (Str × Str × Nat)) (o4 o5 o6 : Option V), σ = [some (.str (mk l)), some (.int (n : Int)), some (.ref p), some (.int (a : Int)), o4, o5, o6] ∧ Same H H' ∧ H' p = some (.lst (l0.map fun q => .ref q.1)) ∧ (∀ q ∈ l0, T4 H' q.1 q.2) ∧
      l0.map (·.2) ++ rest.map (at_line n) = ts.map (at_line n) ∧ Lex (l.drop a) a rest e ∧ a ≤ l.length ∧ l0.length ≤ a ∧ m = l.length - a,
      ⟨_, 0, [], ts, none, none, none, rfl, (Same.refl H).new hp, upd_same, (fun q hq => by cases hq), rfl, hL, Nat.zero_le _, Nat.zero_le _, rfl⟩, ?_⟩
    rintro m σ H1 ⟨a, l0, rest, o4, o5, o6, rfl, S1, hp1, ht1, hts, hLx, hal, hla, rfl⟩
    -- the end of the line, or a note
    have done : e = none → rest = [] → tRet (tVar 2) { nx := fun _ H' => Q V.non H', rt := Q } [some (.str (mk l)), some (.int (n : Int)), some (.ref p), some (.int (a : Int)), o4, o5, o6] H1 := fun e1 e2 => by
      subst e1 e2
      refine ⟨_, rfl, ?_⟩
      rw [List.map_nil, List.append_nil] at hts
      exact hE p H1 S1 hp ⟨l0, hp1, ht1, hts⟩
    refine ⟨_, rfl, _, rfl, _, rfl, hle, _, _, rfl, rfl, _, rfl, ?_⟩
    rw [len_mk]
    refine ite2 (fun h1 => ?_) (fun h1 => ?_)
    rotate_left
    · have hge : l.length ≤ a := by
        rcases Nat.lt_or_ge a l.length with y | y
        · exact absurd (decide_eq_true (by omega)) h1
        · exact y
      rw [List.drop_of_length_le hge] at hLx
      generalize hx : ([] : List Nat) = x at hLx
      cases hLx with
      | nil => exact iteF (done rfl rfl)
      | _ => cases hx
    have ha : a < l.length := by
      have := of_decide_eq_true h1
      omega
    obtain ⟨c, hc⟩ : ∃ c, l[a]? = some c := ⟨l[a], by simp [ha]⟩
    have hd : l.drop a = c :: l.drop (a + 1) := by
      rw [List.drop_eq_getElem_cons ha]
      rw [List.getElem?_eq_getElem ha] at hc
      rw [Option.some.inj hc]
    have ixc : ∀ {H : Hp} {N : VK}, N (.str (mk [c])) H → rIxS (.str (mk l)) (.int (a : Int)) H N := fun q => ixS_mk (by omega) hc q
    have d1 : ∀ b : Nat, decide (V.str (mk [c]) = V.str (mk [b])) = decide (c = b) := fun b => by
      rw [dec_mk]
      by_cases h : c = b
      · subst h; simp
      · rw [decide_eq_false h, decide_eq_false fun z => h (by simpa using z)]
    refine ⟨_, rfl, _, rfl, _, _, _, rfl, rfl, hle, atI_mk hc, rfl, _, rfl, ?_⟩
    have dn : decide (V.str ⟨#[c]⟩ = V.str (Str.ofString "#")) = decide (c = 35) := by
      rw [n35]
      exact d1 35
    rw [dn]
    refine ite2 (fun h2 => ?_) (fun h2 => ?_)
    rotate_left
    · have h2' : c = 35 := by
        by_cases z : c = 35
        · exact z
        · rw [decide_eq_false z] at h2
          exact absurd rfl h2
      subst h2'
      rw [hd] at hLx
      rcases hLx.inv with ⟨_, e1, e2⟩ | ⟨z, _⟩ | ⟨z, _⟩ | ⟨_, _, z, _⟩
      · exact done e2 e1
      · cases z
      · rw [run35] at z; cases z
      · exact absurd rfl z
    have h35 : c ≠ 35 := fun z => by
      rw [z] at h2
      exact absurd h2 (by decide)
    refine ⟨fun σ' H' => ∃ (a' : Nat) (l0 : List (Addr × Tok4)) (rest : List (Str × Str × Nat)) (o4 o5 o6 : Option V), σ' = [some (.str (mk l)), some (.int (n : Int)), some (.ref p), some (.int (a' : Int)), o4, o5, o6] ∧ Same H H' ∧ H' p = some (.lst (l0.map fun q => .ref q.1)) ∧ (∀ q ∈ l0, T4 H' q.1 q.2) ∧
      l0.map (·.2) ++ rest.map (at_line n) = ts.map (at_line n) ∧ Lex (l.drop a') a' rest e ∧ a' ≤ l.length ∧ l0.length ≤ a' ∧ a < a',
      fun σ' H' ⟨a', l0, rest, o4, o5, o6, k1, k2, k3, k4, k5, k6, k7, k8, k9⟩ => ⟨_, by omega, a', l0, rest, o4, o5, o6, k1, k2, k3, k4, k5, k6, k7, k8, rfl⟩, ?_⟩
    refine ⟨_, rfl, _, rfl, l, a, rfl, hal, by omega, ?_⟩
    refine ⟨_, rfl, _, rfl, _, _, _, rfl, rfl, hle, atI_mk hc, rfl, _, rfl, ?_⟩
    have db : decide (V.str ⟨#[c]⟩ = V.str (Str.ofString " ")) = decide (c = 32) := by
      rw [n32]
      exact d1 32
    rw [db]
    refine ite2 (fun h3 => ?_) (fun h3 => ?_)
    · -- a blank
      have h32 := of_decide_eq_true h3
      subst h32
      rw [hd] at hLx
      refine ⟨_, rfl, _, _, rfl, rfl, ?_⟩
      rcases hLx.inv with ⟨z, _⟩ | ⟨_, hr'⟩ | ⟨z, _⟩ | ⟨_, z, _⟩
      · cases z
      · exact ⟨a + 1, l0, rest, _, o5, o6, by rw [show ((a + 1 : Nat) : Int) = (a : Int) + 1 by omega]; rfl, S1, hp1, ht1, hts, hr', by omega, by omega, by omega⟩
      · rw [run32] at z; cases z
      · exact absurd rfl z
    have h32 : c ≠ 32 := fun z => h3 (decide_eq_true z)
    dsimp only [tNext]
    refine cutR2 (t1 := tAsg _ (gName 5)) (t2 := tAsg _ (gName 6)) (fun σ' H' => ∃ (o4 : Option V) (wv kv : V), σ' = [some (.str (mk l)), some (.int (n : Int)), some (.ref p), some (.int (a : Int)), o4, some wv, some kv] ∧ Same H1 H' ∧
      ((∃ (k x : Str) (rest' : List (Str × Str × Nat)), wv = .str x ∧ kv = .str k ∧ rest = (k, x, a + 1) :: rest' ∧ Lex (l.drop (a + x.length)) (a + x.length) rest' e ∧ 1 ≤ x.length ∧ a + x.length ≤ l.length) ∨
        ((wv = .non ∨ kv = .non) ∧ e = some (a + 1)))) ?_ ?_
    · rintro σ' H2 ⟨o4', wv, kv, rfl, S2, hcase⟩
      have hp2 := S2 _ _ hp1
      have nn : ∀ x : Str, ¬ (decide (V.str x = V.non) = true) := fun x z => by cases of_decide_eq_true z
      have bad : (wv = .non ∨ kv = .non) → e = some (a + 1) → ∀ d, H2 d = none → E (.ref C) (some d) (upd H2 d (.xd [(Str.ofString "column", .int ((a : Int) + 1)), (Str.ofString "line", .int (n : Int))])) := fun _ he d hd => by
        subst he
        refine hE d _ ((S1.trans S2).new hd) ((S1.trans S2).free hd) ?_
        rw [upd_same]
        unfold xdOf
        rw [show ((a + 1 : Nat) : Int) = (a : Int) + 1 by omega]
      refine ⟨_, rfl, rfl, _, rfl, ?_⟩
      rcases hcase with ⟨k, x, rest', rfl, rfl, hr1, hr2, hr3, hr4⟩ | ⟨hn, he⟩
      · refine ite2 (fun z => absurd z (nn x)) (fun _ => ?_)
        refine ⟨_, rfl, rfl, _, rfl, ?_⟩
        refine ite2 (fun z => absurd z (nn k)) (fun _ => ?_)
        refine ⟨_, rfl, .inl ⟨rfl, _, .of hp2⟩, ?_⟩
        refine ⟨_, rfl, _, rfl, _, rfl, _, rfl, _, _, rfl, rfl, by show 4 ≤ sizeLine; omega, fun t ht => ?_⟩
        have npt : p ≠ t := ne_of_none hp2 ht
        refine ⟨p, _, _, rfl, rfl, by rw [upd_ne npt]; exact hp2, by rw [List.length_map]; omega, ?_⟩
        refine ⟨_, rfl, _, rfl, _, rfl, by omega, _, _, rfl, rfl, ?_⟩
        have S12 : Same H (upd H2 t (.tup [V.str k, V.str x, V.int (n : Int), V.int ((a : Int) + 1)])) := (S1.trans S2).new ht
        refine ⟨a + x.length, l0 ++ [(t, (k, x, n, a + 1))], rest', _, _, _, rfl, S12.own hp, ?_, fun q hq => ?_, ?_, hr2, hr4, ?_, by omega⟩
        · rw [upd_same, List.map_append]
          rfl
        · rcases List.mem_append.mp hq with hq | hq
          · have h4 := ht1 q hq
            have nq : q.1 ≠ p := ne_of h4 hp1 (by intro z; cases z)
            have nt : q.1 ≠ t := ne_of_none (S2 _ _ h4) ht
            show upd _ p _ q.1 = _
            rw [upd_ne nq, upd_ne nt]
            exact S2 _ _ h4
          · cases List.mem_singleton.mp hq
            show upd _ p _ t = _
            rw [upd_ne npt.symm, upd_same]
            rfl
        · rw [hr1] at hts
          rw [← hts]
          simp [at_line]
        · rw [List.length_append]
          show l0.length + 1 ≤ _
          omega
      · have hbad := bad hn he
        refine ite2 (fun z => ?_) (fun z => ?_)
        · refine ⟨_, rfl, _, rfl, _, _, rfl, rfl, _, _, rfl, hbad⟩
        · refine ⟨_, rfl, rfl, _, rfl, ?_⟩
          refine ite2 (fun z2 => ?_) (fun z2 => ?_)
          · refine ⟨_, rfl, _, rfl, _, _, rfl, rfl, _, _, rfl, hbad⟩
          · rcases hn with h | h
            · exact absurd (decide_eq_true h) z
            · exact absurd (decide_eq_true h) z2
    · intro N hN
      have rl : rest = rest := rfl
      rw [hd] at hLx
      rcases hLx.inv with ⟨z, _⟩ | ⟨z, _⟩ | ⟨hrun, u, r, hur, hall, hstop, hk⟩ | ⟨hrun, _, _, hk⟩
      · exact absurd z h35
      · exact absurd z h32
      · -- a run
        have etw : (l.drop a).takeWhile inRun = c :: u := by
          rw [hd, hur]
          exact run_eq hall hstop
        have dE : decide (V.str (mk (c :: u)) = V.str (Str.ofString "")) = false := by
          rw [nE, dec_mk]
          exact decide_eq_false (by simp)
        have hlen : a + (u.length + 1) ≤ l.length := by
          have := congrArg List.length hd
          rw [hur, List.length_drop] at this
          simp at this
          omega
        have hdr : l.drop (a + (u.length + 1)) = r := by
          rw [← List.drop_drop, hd, hur]
          simp
        rw [etw]
        refine ⟨_, rfl, rfl, _, rfl, ?_⟩
        rw [dE]
        refine iteT ⟨_, rfl, ?_⟩
        refine ⟨_, rfl, rfl, _, rfl, ?_⟩
        rw [dE]
        refine iteF ⟨_, rfl, c :: u, rfl, by simp, by simp; omega, fun H2 S2 => ?_⟩
        refine hN _ _ ⟨_, _, _, rfl, S2, ?_⟩
        rcases hk with ⟨k, ts', h1, h2, h3⟩ | ⟨h1, h2, h3⟩
        · refine .inl ⟨k, mk (c :: u), ts', rfl, by rw [h1]; rfl, h2, ?_, ?_, ?_⟩
          · rw [len_mk, List.length_cons, hdr]
            exact h3
          · rw [len_mk]; simp
          · rw [len_mk]; simpa using hlen
        · exact .inr ⟨.inr (by rw [h1]; rfl), h3⟩
      · have etw : (l.drop a).takeWhile inRun = [] := by
          rw [hd]
          exact run_none hrun
        have dE : decide (V.str (mk []) = V.str (Str.ofString "")) = true := by
          rw [nE]
          exact decide_eq_true rfl
        rw [etw]
        refine ⟨_, rfl, rfl, _, rfl, ?_⟩
        rw [dE]
        refine iteF ⟨_, rfl, _, rfl, l, a, rfl, by omega, ?_⟩
        refine ⟨_, rfl, rfl, _, rfl, ?_⟩
        rw [dE]
        refine iteT ?_
        refine hN _ _ ⟨_, _, _, rfl, Same.refl _, ?_⟩
        rw [← hd] at hk
        rcases hk with ⟨s', ts', h1, h2, h3⟩ | ⟨h1, h2, h3⟩
        · obtain ⟨m1, m2⟩ := signV_mem h1
          have m3 := sign_len s' m1
          have m4 : (tl s').length ≤ (l.drop a).length := by
            rw [← m2, List.length_take]
            exact Nat.min_le_right _ _
          rw [List.length_drop] at m4
          refine .inl ⟨_, s', ts', by rw [h1]; rfl, rfl, h2, ?_, by rw [len_tl]; exact m3, by rw [len_tl]; omega⟩
          rw [len_tl, ← List.drop_drop]
          exact h3
        · exact .inr ⟨.inl (by rw [h1]; rfl), h3⟩
end
end K21
namespace K21
open PySem PySem.Spec PyProof.Rows L2 TL Lore LoreX
def dueOf : Nat → List (List Nat × List (Str × Str × Nat)) → List Tok4
  | _, [] => []
  | n, q :: rs => q.2.map (at_line n) ++ dueOf (n + 1) rs
theorem dueOf_app : ∀ (n : Nat) (rs ss : List (List Nat × List (Str × Str × Nat))), dueOf n (rs ++ ss) = dueOf n rs ++ dueOf (n + rs.length) ss
  | n, [], ss => rfl
  | n, q :: rs, ss => by
    show q.2.map (at_line n) ++ dueOf (n + 1) (rs ++ ss) = (q.2.map (at_line n) ++ dueOf (n + 1) rs) ++ _
    rw [dueOf_app (n + 1) rs ss, List.append_assoc, List.length_cons, show n + 1 + rs.length = n + (rs.length + 1) by omega]
theorem Lex.len {l : List Nat} {a : Nat} {ts : List (Str × Str × Nat)} {e : Option Nat} (h : Lex l a ts e) : ts.length ≤ l.length := by
  induction h with
  | nil a => exact Nat.le_refl _
  | note r a => exact Nat.zero_le _
  | blank h ih => simp only [List.length_cons]; omega
  | run h1 h2 h3 h4 ih => simp only [List.length_cons, List.length_append]; omega
  | badRun h1 h2 h3 => exact Nat.zero_le _
  | @sign c l a s ts e h1 h2 h3 h4 h5 ih =>
    have m := sign_len s (signV_mem h4).1
    rw [List.length_drop] at ih
    simp only [List.length_cons] at ih ⊢
    omega
  | badSign h1 h2 h3 h4 => exact Nat.zero_le _
theorem dueOf_len : ∀ (n : Nat) (rs : List (List Nat × List (Str × Str × Nat))) (m : Nat), (∀ q ∈ rs, Lex q.1 0 q.2 none ∧ q.1.length ≤ m) → (dueOf n rs).length ≤ rs.length * m
  | n, [], m, _ => by simp [dueOf]
  | n, q :: rs, m, h => by
    have h1 := h q List.mem_cons_self
    have h2 := dueOf_len (n + 1) rs m fun q hq => h q (List.mem_cons_of_mem _ hq)
    have h3 := h1.1.len
    show (q.2.map (at_line n) ++ dueOf (n + 1) rs).length ≤ _
    rw [List.length_append, List.length_map, List.length_cons, Nat.succ_mul]
    omega
/-- a text's rows: those that are read, and the one at which reading stops -/
structure Text (x : List Nat) (rs : List (List Nat × List (Str × Str × Nat))) (b : Option Nat) : Prop where
  at_ : ∃ more : List (List Nat), Txt.split (mk x) (Str.ofString "\n") = (rs.map (·.1) ++ more).map mk ∧ (rs.map (·.1) ++ more).length ≤ 1000 ∧ (∀ r ∈ rs.map (·.1) ++ more, r.length ≤ 10000) ∧
    (match b with
    | none => more = [] ∧ rs ≠ []
    | some c => ∃ row rest ts, more = row :: rest ∧ Lex row 0 ts (some c))
  lex : ∀ q ∈ rs, Lex q.1 0 q.2 none
  len : x.length ≤ 1000000
def lastLen (rs : List (List Nat × List (Str × Str × Nat))) : Nat := ((rs.map (·.1)).getD (rs.length - 1) []).length
def endOf (rs : List (List Nat × List (Str × Str × Nat))) : Tok4 := (Str.ofString "end", Str.ofString "", rs.length, lastLen rs + 1)
/-- a tuple of words at p -/
def ToksT (H : Hp) (p : Addr) (ts : List Tok4) : Prop := ∃ l : List (Addr × Tok4), H p = some (.tup (l.map fun q => .ref q.1)) ∧ (∀ q ∈ l, T4 H q.1 q.2) ∧ l.map (·.2) = ts
/-- an error leaves at its place -/
def BadTo (C : Addr) (n : Nat) (H : Hp) (E : XK) (b : Option Nat) : Prop := ∀ c, b = some c → ∀ d H', Same H H' → H d = none → H' d = some (xdOf n c) → E (.ref C) (some d) H'
def spWords (C : Addr) : Sp := fun vs H Q E => ∃ (x : List Nat) (rs : List (List Nat × List (Str × Str × Nat))) (b : Option Nat), vs = [.str (mk x)] ∧ Text x rs b ∧
  (b = none → ∀ p H', Same H H' → H p = none → ToksT H' p (dueOf 1 rs ++ [endOf rs]) → Q (.ref p) H') ∧ BadTo C (rs.length + 1) H E b
section
variable {P : Program} {w : World} {K : PySem.W.Frag} {mg : Str → Option Value} {base : Heap} {f : Addr} {fd : FuncData}
theorem sc_words : FnScope ["text", "lines", "found", "index", "line"] ["text"] (defScope s_words_of) := ⟨rfl, rfl, rfl, by decide +kernel, rfl, by decide +kernel, by decide +kernel⟩
theorem ok_words {C : Addr} (F : FnP K "words_of" s_words_of f fd) (X : Fx K mg) (L : Cal P w K mg base (L2.CX P w) 3 "words_of_line" ["line", "number"] (spLine C)) : FnOk P w K mg base (L2.CX P w) 4 f fd ["text"] (spWords C) := by
  have nd := sc_words.nd
  refine F.ok sc_words (fun vs H Q E h => ?_) (fun cdv A outer s H vs Q E hr h => ?_)
  · obtain ⟨x, rs, b, rfl, _⟩ := h
    rfl
  · obtain ⟨x, rs, b, rfl, hT, hQ, hB⟩ := h
    refine ⟨_, pss_cons (ps_par (i := 1) (j := 2) (by rfl) nd rfl rfl (by decide) rfl rfl (pa_cons (pe_split (pv 0) pe_str) (pa_cons (pe_lst pa_nil) pa_nil)) (by rfl))
      (pss_cons (ps_for (passes_of rfl) rfl (pi_enum (by rfl) X.enumerate (pa_cons (pv 1) pa_nil)) (pg_tup (by rfl) (pgs_cons (pg_name (i := 3) nd rfl (.inl rfl)) (pgs_cons (pg_name (i := 4) nd rfl (.inl rfl)) pgs_nil)))
        (pss_one (ps_expr (pe_bm PySem.F.plainAttrs_list PySem.F.slot_list_extend PySem.F.type_list_extend mt_extend (pv 2) (pa_cons (pe_cal L hr (passT (takes_of rfl rfl rfl rfl)) (pa_cons (pv 4) (pa_cons (pe_op op_add (pv 3) pe_int) pa_nil))) pa_nil)))))
      (pss_one (ps_ret (pe_tup (StX.pa_star (pv 2) (pa_cons (pe_tup (pa_cons (pe_gstr X.END) (pa_cons pe_str (pa_cons (pe_callB call_len_seq (by rfl) X.len boot_len (pa_cons (pv 1) pa_nil))
        (pa_cons (pe_op op_add (pe_callB call_len_str (by rfl) X.len boot_len (pa_cons (pe_ix ix_list (pv 1) (pe_un un_neg pe_int) (fun _ _ => rfl)) pa_nil)) pe_int) pa_nil))))) pa_nil)))))), ?_⟩
    obtain ⟨⟨more, hsp, hr1, hr2, hb⟩, hlex, hxl⟩ := hT
    have hz := sizeLine_eq
    have hlr : rs.length ≤ 1000 := by
      rw [List.length_append, List.length_map] at hr1
      omega
    have hdl : ∀ i, (dueOf 1 (rs.take i)).length ≤ 10000000 := fun i => by
      have h1 := dueOf_len 1 (rs.take i) 10000 fun q hq => ⟨hlex q (List.mem_of_mem_take hq), hr2 _ (List.mem_append_left _ (List.mem_map_of_mem (List.mem_of_mem_take hq)))⟩
      have h2 : (rs.take i).length ≤ 1000 := by rw [List.length_take]; omega
      have h3 := Nat.mul_le_mul_right 10000 h2
      omega
    refine ⟨_, rfl, ⟨_, rfl⟩, mk x, _, rfl, rfl, by decide +kernel, by rw [len_mk]; omega, fun lp hlp => ⟨by show 0 ≤ sizeLine; omega, fun p hp => ⟨_, _, rfl, ?_⟩⟩⟩
    rw [hsp] at hp ⊢
    have nlp : lp ≠ p := ne_of_none upd_same hp
    have hpH : H p = none := by rw [upd_ne nlp.symm] at hp; exact hp
    have hrow : ∀ i, i ≤ rs.length → (rs.map (·.1) ++ more)[i]? = (if h : i < rs.length then some (rs[i].1) else more[i - rs.length]?) := fun i hi => by
      by_cases h : i < rs.length
      · rw [dif_pos h, List.getElem?_append_left (by rw [List.length_map]; exact h), List.getElem?_map, List.getElem?_eq_getElem h]
        rfl
      · rw [dif_neg h, List.getElem?_append_right (by rw [List.length_map]; omega), List.length_map]
    generalize erows : rs.map (·.1) ++ more = rows at *
    refine ⟨_, rfl, lp, _, rfl, .of (by rw [upd_ne nlp, upd_same]), ?_⟩
    refine for_it (walk_enum (xs := (rows.map mk).map V.str)) (fun i σ H' => (∃ o3 o4 : Option V, σ = [some (.str (mk x)), some (.ref lp), some (.ref p), o3, o4]) ∧ Same H H' ∧ H' lp = some (.lst ((rows.map mk).map V.str)) ∧ i ≤ rs.length ∧ ToksL H' p (dueOf 1 (rs.take i)))
      ⟨⟨none, none, rfl⟩, ((Same.refl H).new hlp).new hp, by rw [upd_ne nlp, upd_same], Nat.zero_le _, [], upd_same, (fun q hq => by cases hq), rfl⟩ (fun i σ H' _ h => .of h.2.2.1) (fun i v σ H1 H1' hi hP y => ?_) (fun σ H1 hP => ?_)
    · obtain ⟨⟨o3, o4, rfl⟩, S1, hlp1, hir, l0, hp1, ht1, hd1⟩ := hP
      obtain ⟨T, x', y', rfl, hT, rfl, ex, ey⟩ := y
      cases ex
      have ey : (List.map V.str (List.map mk rows))[i]? = some y' := ey
      rw [List.getElem?_map, List.getElem?_map] at ey
      refine ⟨T, _, rfl, .of upd_same, rfl, _, _, rfl, _, _, rfl, rfl, ?_⟩
      have npT : p ≠ T := ne_of_none hp1 hT
      refine ⟨_, rfl, .inl ⟨rfl, _, .of (by rw [upd_ne npT]; exact hp1)⟩, ?_⟩
      have S2 : Same H1 (upd H1 T (.tup [V.int (i : Nat), y'])) := (Same.refl H1).new hT
      generalize upd H1 T (.tup [V.int (i : Nat), y']) = H2 at S2 ⊢
      have hcast : ((i + 1 : Nat) : Int) = (i : Int) + 1 := by omega
      have hrw := hrow i hir
      by_cases hlt : i < rs.length
      · rw [dif_pos hlt] at hrw
        rw [hrw] at ey
        cases ey
        have hq := hlex rs[i] (List.getElem_mem hlt)
        have hrl := hr2 rs[i].1 (List.mem_of_getElem? hrw)
        refine ⟨_, rfl, _, rfl, _, _, rfl, rfl, rs[i].1, i + 1, rs[i].2, none, by rw [hcast]; rfl, by omega, hq, fun q H3 S3 hq3 ⟨l, hl1, hl2, hl3⟩ => ?_⟩
        have hp3 := S3 _ _ (S2 _ _ hp1)
        have e1 : dueOf 1 (rs.take (i + 1)) = dueOf 1 (rs.take i) ++ rs[i].2.map (at_line (i + 1)) := by
          rw [List.take_add_one, List.getElem?_eq_getElem hlt, dueOf_app, List.length_take, Nat.min_eq_left hir]
          show _ ++ (rs[i].2.map (at_line (1 + i)) ++ []) = _
          rw [List.append_nil, Nat.add_comm 1 i]
        have hlen := hdl (i + 1)
        rw [e1, ← hd1, ← hl3, ← List.map_append, List.length_map] at hlen
        rw [List.length_append] at hlen
        refine ⟨p, q, _, _, rfl, rfl, hp3, hl1, by rw [List.length_map, List.length_map]; omega, ?_⟩
        have S13 := (S1.trans S2).trans S3
        refine ⟨⟨_, _, rfl⟩, S13.own hpH, ?_, hlt, l0 ++ l, ?_, fun q' hq' => ?_, ?_⟩
        · have nl : lp ≠ p := nlp
          rw [upd_ne nl]
          exact S3 _ _ (S2 _ _ hlp1)
        · rw [upd_same, List.map_append]
        · have hT4 : T4 H3 q'.1 q'.2 := by
            rcases List.mem_append.mp hq' with h | h
            · exact S3 _ _ (S2 _ _ (ht1 q' h))
            · exact hl2 q' h
          have nq : q'.1 ≠ p := ne_of hT4 hp3 (by intro z; cases z)
          show upd H3 p _ q'.1 = _
          rw [upd_ne nq]
          exact hT4
        · rw [List.map_append, hd1, hl3, e1]
      · have hie : i = rs.length := by omega
        subst hie
        rw [dif_neg hlt, Nat.sub_self] at hrw
        cases b with
        | none =>
          rw [hb.1] at hrw
          rw [hrw] at ey
          cases ey
        | some c =>
          obtain ⟨row, rest, ts, rfl, hlx⟩ := hb
          rw [List.getElem?_cons_zero] at hrw
          rw [hrw] at ey
          cases ey
          have hrl := hr2 row (List.mem_of_getElem? hrw)
          refine ⟨_, rfl, _, rfl, _, _, rfl, rfl, row, rs.length + 1, ts, some c, by rw [hcast]; rfl, by omega, hlx, fun d H3 S3 hd3 hx3 => ?_⟩
          exact hB c rfl d H3 ((S1.trans S2).trans S3) ((S1.trans S2).free hd3) hx3
    · obtain ⟨⟨o3, o4, rfl⟩, S1, hlp1, hir, l0, hp1, ht1, hd1⟩ := hP
      rw [List.length_map, List.length_map, ← erows, List.length_append, List.length_map] at hir
      have hmore : more = [] := List.eq_nil_of_length_eq_zero (by omega)
      cases b with
      | some c =>
        obtain ⟨row, rest, ts, e, _⟩ := hb
        rw [hmore] at e
        cases e
      | none =>
        subst hmore
        rw [List.append_nil] at erows
        rw [List.length_map, List.length_map, ← erows, List.length_map, List.take_length] at hd1
        rw [← erows] at hlp1 hr1 hr2
        rcases List.eq_nil_or_concat rs with e | ⟨rs', q0, e⟩
        · exact absurd e hb.2
        · have elast : ((rs.map (·.1)).map mk).map V.str = ((rs'.map (·.1)).map mk).map V.str ++ [V.str (mk q0.1)] := by rw [e]; simp
          have ell : lastLen rs = q0.1.length := by unfold lastLen; rw [e]; simp
          have hq0 : q0.1.length ≤ 10000 := hr2 _ (by rw [e]; simp)
          refine ⟨_, rfl, p, _, rfl, .inr (.of hp1), ?_⟩
          refine ⟨_, rfl, lp, _, rfl, .inl (.of hlp1), ?_⟩
          refine ⟨_, rfl, 1, rfl, lp, _, -1, .str (mk q0.1), rfl, rfl, .of hlp1, by rw [elast]; exact atI_last _ _, _, rfl, by rw [len_mk]; omega, _, _, rfl, rfl, by show 4 ≤ sizeLine; omega, fun t ht => ?_⟩
          have npt : p ≠ t := ne_of_none hp1 ht
          have hdl' := hdl rs.length
          rw [List.take_length, ← hd1, List.length_map] at hdl'
          refine ⟨by rw [List.length_append, List.length_map]; show _ + 1 ≤ sizeLine; omega, fun r hr => ?_⟩
          have ntr : t ≠ r := ne_of_none upd_same hr
          refine hQ rfl r _ ((S1.new ht).new hr) ((S1.new ht).free hr) ⟨l0 ++ [(t, endOf rs)], ?_, fun q hq => ?_, ?_⟩
          · rw [upd_same, List.map_append]
            rfl
          · rcases List.mem_append.mp hq with h | h
            · exact ((Same.refl H1).new ht).new hr _ _ (ht1 q h)
            · cases List.mem_singleton.mp h
              show upd _ r _ t = _
              rw [upd_ne ntr, upd_same]
              unfold endOf
              rw [ell, len_mk]
              simp
          · rw [List.map_append, hd1]
            rfl
end
end K21
namespace K21
open PySem PySem.Spec PyProof.Rows L2 TL Lore LoreX
/-- the words alone -/
def wordsOf (rs : List (List Nat × List (Str × Str × Nat))) : List Str := (dueOf 1 rs).map fun t => t.2.1
def spPlain (C : Addr) : Sp := fun vs H Q E => ∃ (x : List Nat) (rs : List (List Nat × List (Str × Str × Nat))) (b : Option Nat), vs = [.str (mk x)] ∧ Text x rs b ∧
  (b = none → ∀ p H', Same H H' → H p = none → H' p = some (.tup ((wordsOf rs).map V.str)) → Q (.ref p) H') ∧ BadTo C (rs.length + 1) H E b
def spLike (C : Addr) : Sp := fun vs H Q E => ∃ (x y : List Nat) (rs ss : List (List Nat × List (Str × Str × Nat))) (b : Option Nat), vs = [.str (mk x), .str (mk y)] ∧ Text x rs none ∧ Text y ss b ∧
  (b = none → ∀ H', Same H H' → Q (.bl (decide (wordsOf rs = wordsOf ss))) H') ∧ BadTo C (ss.length + 1) H E b
def spSpaced (K : PySem.W.Frag) : Sp := fun vs H Q _ => ∃ (p : Addr) (ys : List Str), vs = [.ref p] ∧ (SqL K H p (ys.map V.str) ∨ SqT K H p (ys.map V.str)) ∧ (ys.map (·.length)).sum + ys.length ≤ 16777216 ∧ Q (.str (Str.join (mk [32]) ys)) H
theorem cut_last {xs : List V} {v : V} : cutV (xs ++ [v]) none (some (-1)) = xs := by
  have e1 : HT.sIx (xs ++ [v]).length (xs ++ [v]).length (some (-1)) = xs.length := by
    show (if (-1 : Int) < 0 then ((-1 : Int) + ((xs ++ [v]).length : Int)).toNat else min (-1 : Int).toNat (xs ++ [v]).length) = _
    rw [if_pos (by decide), List.length_append, List.length_singleton]
    omega
  unfold cutV
  rw [e1, HT.sIx_none, List.drop_zero, Nat.sub_zero]
  simp
theorem eqv_strs : ∀ a b : List Str, PyData.eqvAll (a.map PyData.str) (b.map PyData.str) = decide (a = b)
  | [], [] => rfl
  | [], _ :: _ => rfl
  | _ :: _, [] => rfl
  | x :: a, y :: b => by
    show (PyData.eqv (.str x) (.str y) && PyData.eqvAll (a.map PyData.str) (b.map PyData.str)) = _
    rw [eqv_strs a b]
    show ((x == y) && _) = _
    by_cases h : x = y
    · subst h
      by_cases h2 : a = b
      · subst h2; simp
      · simp [h2]
    · simp [h]
theorem strs_shaped : ∀ {ys : List Str}, (∀ y ∈ ys, PyData.strOk y = true) → PyData.canLayAll0 (ys.map PyData.str) = true ∧ PyData.depthAll (ys.map PyData.str) = 0
  | [], _ => ⟨rfl, rfl⟩
  | y :: ys, h => by
    obtain ⟨h1, h2⟩ := strs_shaped fun z hz => h z (List.mem_cons_of_mem _ hz)
    refine ⟨?_, ?_⟩
    · show (PyData.strOk y && PyData.canLayAll0 (ys.map PyData.str)) = true
      rw [h y List.mem_cons_self, h1]
      rfl
    · show max 0 (PyData.depthAll (ys.map PyData.str)) = 0
      rw [h2]
      rfl
theorem run_small {c : Nat} (h : inRun c = true) : c < 128 := by
  have k : ∀ d ∈ Lo ++ (Ca ++ Di), d < 128 := by decide +kernel
  refine k c ?_
  unfold inRun at h
  simp only [Bool.or_eq_true, decide_eq_true_eq] at h
  simp only [List.mem_append]
  exact h
theorem Lex.small {l : List Nat} {a : Nat} {ts : List (Str × Str × Nat)} {e : Option Nat} (h : Lex l a ts e) : ∀ t ∈ ts, PyData.strOk t.2.1 = true := by
  induction h with
  | nil a => exact fun t ht => by cases ht
  | note r a => exact fun t ht => by cases ht
  | blank h ih => exact ih
  | run h1 h2 h3 h4 ih =>
    intro t ht
    rcases List.mem_cons.mp ht with e | ht
    · subst e
      show (mk _).cps.all (fun d => decide (d < 0x110000)) = true
      unfold mk
      rw [List.all_toArray', List.all_eq_true]
      intro d hd
      have := run_small (h1 d hd)
      exact decide_eq_true (by omega)
      rfl
    · exact ih t ht
  | badRun h1 h2 h3 => exact fun t ht => by cases ht
  | @sign c l a s ts e h1 h2 h3 h4 h5 ih =>
    intro t ht
    rcases List.mem_cons.mp ht with e | ht
    · subst e
      have k : ∀ s ∈ signsS, PyData.strOk s = true := by decide +kernel
      exact k s (signV_mem h4).1
    · exact ih t ht
  | badSign h1 h2 h3 h4 => exact fun t ht => by cases ht
theorem dueOf_small : ∀ (n : Nat) (rs : List (List Nat × List (Str × Str × Nat))), (∀ q ∈ rs, Lex q.1 0 q.2 none) → ∀ t ∈ dueOf n rs, PyData.strOk t.2.1 = true
  | _, [], _, t, ht => by cases ht
  | n, q :: rs, h, t, ht => by
    rcases List.mem_append.mp (show t ∈ q.2.map (at_line n) ++ dueOf (n + 1) rs from ht) with ht | ht
    · obtain ⟨u, hu, e⟩ := List.mem_map.mp ht
      subst e
      exact (h q List.mem_cons_self).small u hu
    · exact dueOf_small (n + 1) rs (fun q hq => h q (List.mem_cons_of_mem _ hq)) t ht
theorem words_small {rs : List (List Nat × List (Str × Str × Nat))} (h : ∀ q ∈ rs, Lex q.1 0 q.2 none) : ∀ y ∈ wordsOf rs, PyData.strOk y = true := fun y hy => by
  obtain ⟨t, ht, e⟩ := List.mem_map.mp hy
  subst e
  exact dueOf_small 1 rs h t ht
section
variable {P : Program} {w : World} {K : PySem.W.Frag} {mg : Str → Option Value} {base : Heap} {f : Addr} {fd : FuncData}
theorem sc_plain : FnScope ["text", "kind", "word", "line", "column"] ["text"] (defScope s_plain_words) := ⟨rfl, rfl, rfl, by decide +kernel, rfl, by decide +kernel, by decide +kernel⟩
theorem ok_plain {C : Addr} (F : FnP K "plain_words" s_plain_words f fd) (X : Fx K mg) (W : Cal P w K mg base (L2.CX P w) 4 "words_of" ["text"] (spWords C)) : FnOk P w K mg base (L2.CX P w) 5 f fd ["text"] (spPlain C) := by
  have nd := sc_plain.nd
  refine F.ok sc_plain (fun vs H Q E h => ?_) (fun cdv A outer s H vs Q E hr h => ?_)
  · obtain ⟨x, rs, b, rfl, _⟩ := h
    rfl
  · obtain ⟨x, rs, b, rfl, hT, hQ, hB⟩ := h
    refine ⟨_, pss_one (ps_ret (pe_callTy call_tuple_of (by rfl) X.tuple boot_tuple (pa_cons (pe_slice sl_list
      (pe_lc (own := [("kind", 1), ("word", 2), ("line", 3), ("column", 4)]) (g := gTup K 4 (gCons (gName 1) (gCons (gName 2) (gCons (gName 3) (gCons (gName 4) gNil))))) (tt := tYes) rfl nd (pi_tup (pe_cal W hr (passT (takes_of rfl rfl rfl rfl)) (pa_cons (pv 0) pa_nil)))
        (blkOk_by (N := ["text", "kind", "word", "line", "column"]) (sc := defScope s_plain_words) (by decide +kernel))
        (fun _ _ _ _ _ => pg_tup (by rfl) (pgs_cons (pg_name (i := 1) nd rfl (.inl rfl)) (pgs_cons (pg_name (i := 2) nd rfl (.inl rfl)) (pgs_cons (pg_name (i := 3) nd rfl (.inl rfl)) (pgs_cons (pg_name (i := 4) nd rfl (.inl rfl)) pgs_nil)))))
        (fun _ _ _ _ _ => pts_nil) (fun _ _ _ _ _ => pv 2)) po_none (po_some (pe_un un_neg pe_int))) pa_nil))), ?_⟩
    refine ⟨_, rfl, x, rs, b, rfl, hT, fun hb q H1 S1 hq ht => ?_, hB⟩
    obtain ⟨l, hl1, hl2, hl3⟩ := ht
    refine ⟨q, rfl, ⟨_, .of hl1⟩, fun D hD => ?_⟩
    have nqD : q ≠ D := ne_of_none hl1 hD
    have hll : l.length ≤ sizeLine := by
      obtain ⟨⟨more, _, hr1, hr2, _⟩, hlex, _⟩ := hT
      have h1 := dueOf_len 1 rs 10000 fun q hq => ⟨hlex q hq, hr2 _ (List.mem_append_left _ (List.mem_map_of_mem hq))⟩
      rw [List.length_append, List.length_map] at hr1
      have h3 := Nat.mul_le_mul_right 10000 (show rs.length ≤ 1000 by omega)
      have h4 := congrArg List.length hl3
      rw [List.length_map, List.length_append] at h4
      have hz := sizeLine_eq
      have h5 : ([endOf rs] : List Tok4).length = 1 := rfl
      omega
    refine lc_tup (xs := l.map fun q => V.ref q.1) (fun i H' => H' = upd H1 D (.lst ((l.take i).map fun q => V.str q.2.2.1))) rfl (fun i H' _ e => ?_) (fun i v H' hv e => ?_) (fun H' e => ?_)
    · subst e
      exact .of (by rw [upd_ne nqD]; exact hl1)
    · subst e
      rw [List.getElem?_map] at hv
      cases hi : l[i]? with
      | none => rw [hi] at hv; cases hv
      | some z =>
        rw [hi] at hv
        cases hv
        have hz := hl2 z (List.mem_of_getElem? hi)
        have nzD : z.1 ≠ D := ne_of_none hz hD
        refine ⟨z.1, _, rfl, .of (by rw [upd_ne nzD]; exact hz), rfl, _, _, rfl, _, _, rfl, _, _, rfl, _, _, rfl, rfl, ?_⟩
        refine ⟨rfl, _, rfl, _, upd_same, ?_, ?_⟩
        · have : i < l.length := by
            rcases Nat.lt_or_ge i l.length with y | y
            · exact y
            · rw [List.getElem?_eq_none y] at hi
              cases hi
          rw [List.length_map, List.length_take]
          omega
        · rw [upd_upd, List.take_add_one, hi]
          simp
    · subst e
      rw [List.length_map, List.take_length]
      have e1 : (l.map fun q => V.str q.2.2.1) = (wordsOf rs).map V.str ++ [V.str (Str.ofString "")] := by
        have : (l.map fun q => V.str q.2.2.1) = (l.map (·.2)).map fun t => V.str t.2.1 := by rw [List.map_map]; rfl
        rw [this, hl3, List.map_append]
        unfold wordsOf
        rw [List.map_map]
        rfl
      rw [e1]
      refine ⟨1, rfl, _, rfl, D, _, rfl, .of upd_same, fun p hp => ?_⟩
      rw [cut_last]
      have nDp : D ≠ p := ne_of_none upd_same hp
      refine ⟨p, _, rfl, .inl ⟨.of upd_same, fun r hr => ?_⟩⟩
      exact hQ hb r _ (((S1.new hD).new hp).new hr) (((S1.new hD).new hp).free hr) upd_same
theorem sc_like : FnScope ["one", "other"] ["one", "other"] (defScope s_are_alike) := ⟨rfl, rfl, rfl, by decide +kernel, rfl, by decide +kernel, by decide +kernel⟩
theorem ok_like {C : Addr} (F : FnP K "are_alike" s_are_alike f fd) (X : Fx K mg) (W : Cal P w K mg base (L2.CX P w) 5 "plain_words" ["text"] (spPlain C)) : FnOk P w K mg base (L2.CX P w) 6 f fd ["one", "other"] (spLike C) := by
  have nd := sc_like.nd
  refine F.ok sc_like (fun vs H Q E h => ?_) (fun cdv A outer s H vs Q E hr h => ?_)
  · obtain ⟨x, y, rs, ss, b, rfl, _⟩ := h
    rfl
  · obtain ⟨x, y, rs, ss, b, rfl, hT, hT2, hQ, hB⟩ := h
    refine ⟨_, pss_one (ps_ret (pe_cmpR (op_eqD hr.units) (pe_cal W hr (passT (takes_of rfl rfl rfl rfl)) (pa_cons (pv 0) pa_nil)) (pe_cal W hr (passT (takes_of rfl rfl rfl rfl)) (pa_cons (pv 1) pa_nil)) (nomark _))), ?_⟩
    refine ⟨_, rfl, x, rs, none, rfl, hT, fun _ p H1 S1 hp hp1 => ?_, fun c e => by cases e⟩
    refine ⟨_, rfl, y, ss, b, rfl, hT2, fun hb q H2 S2 hq hq2 => ?_, fun c e d H2 S2 hd hd2 => hB c e d H2 (S1.trans S2) (S1.free hd) hd2⟩
    refine ⟨.tuple ((wordsOf rs).map PyData.str), .tuple ((wordsOf ss).map PyData.str), .tup (.of (S2 _ _ hp1)) (DpAll.strs _), .tup (.of hq2) (DpAll.strs _), ?_, ?_, ?_⟩
    · obtain ⟨h1, h2⟩ := strs_shaped (words_small hT.lex)
      show (PyData.canLayAll0 _ && decide (PyData.depthAll _ + 1 ≤ 64)) = true
      rw [h1, h2]
      rfl
    · obtain ⟨h1, h2⟩ := strs_shaped (words_small hT2.lex)
      show (PyData.canLayAll0 _ && decide (PyData.depthAll _ + 1 ≤ 64)) = true
      rw [h1, h2]
      rfl
    · show Q (.bl (PyData.eqvAll _ _)) H2
      rw [eqv_strs]
      exact hQ hb H2 (S1.trans S2)
theorem sc_spaced : FnScope ["words"] ["words"] (defScope s_spaced) := ⟨rfl, rfl, rfl, by decide +kernel, rfl, by decide +kernel, by decide +kernel⟩
theorem ok_spaced (F : FnP K "spaced" s_spaced f fd) (X : Fx K mg) : FnOk P w K mg base CX0 1 f fd ["words"] (spSpaced K) := by
  have nd := sc_spaced.nd
  refine F.ok sc_spaced (fun vs H Q E h => ?_) (fun cdv A outer s H vs Q E hr h => ?_)
  · obtain ⟨p, ys, rfl, _⟩ := h
    rfl
  · obtain ⟨p, ys, rfl, hs, hl, k⟩ := h
    refine ⟨_, PSs.nox (pss_one (ps_ret (pe_join (pe_gstr X.BLANK) (pv 0)))), ?_⟩
    refine ⟨⟨_, rfl⟩, _, rfl, _, p, ys, rfl, rfl, hs, ?_, ?_⟩
    · have e : (Str.ofString " ").length = 1 := by decide +kernel
      rw [e]
      omega
    · rw [n32, join_eq]
      exact k
end
end K21
namespace K21
open PySem PySem.Spec PyProof.Rows L2 TL Lore
abbrev Tok3 : Type := Str × Str × Nat
abbrev Row : Type := List Nat × List Tok3
/-- behind a word: nothing, a blank, a note -/
def After (r : List Nat) : Prop := r = [] ∨ ∃ r', r = 32 :: r' ∨ r = 35 :: r'
/-- a word of this kind, wherever it stands -/
def Good (k : Str) (u : List Nat) : Prop := ∀ (r : List Nat), After r → ∀ (a : Nat) (ts : List Tok3) (e : Option Nat), Lex r (a + u.length) ts e → Lex (u ++ r) a ((k, mk u, a + 1) :: ts) e
theorem After.stop {r : List Nat} (h : After r) : ∀ d, r.head? = some d → inRun d = false := by
  intro d hd
  rcases h with rfl | ⟨r', rfl | rfl⟩
  · cases hd
  · cases hd; exact run32
  · cases hd; exact run35
theorem good_run {k : Str} {c : Nat} {u : List Nat} (h1 : ∀ d ∈ c :: u, inRun d = true) (h2 : kindV (c :: u) = some k) : Good k (c :: u) := fun r hr a ts e h => Lex.run h1 hr.stop h2 h
theorem good_sign {c : Nat} {u : List Nat} (h1 : inRun c = false) (h2 : c ≠ 32) (h3 : c ≠ 35) (h4 : ∀ r, After r → signV (c :: (u ++ r)) = some (mk (c :: u))) : Good (Str.ofString "sign") (c :: u) := fun r hr a ts e h => by
  refine Lex.sign h1 h2 h3 (h4 r hr) ?_
  have e1 : (tl (mk (c :: u))).length = (c :: u).length := rfl
  rw [e1, show (c :: (u.append r)) = (c :: u) ++ r from rfl, List.drop_left]
  exact h
def signsL : List (List Nat) := [[58, 45], [60, 61], [33, 61], [40], [41], [44], [46], [60], [61]]
theorem signs_eq : signsS = signsL.map mk := by decide +kernel
theorem signV_eq (l : List Nat) : signV l = (signsL.find? fun s => decide (l.take s.length = s)).map mk := by
  unfold signV
  rw [signs_eq, List.find?_map]
  rfl
/-- what is open: a row's start, whose words are known, whatever follows -/
def Open (cur : List Nat) (cts : List Tok3) : Prop := ∀ (r : List Nat) (ts : List Tok3) (e : Option Nat), Lex r cur.length ts e → Lex (cur ++ r) 0 (cts ++ ts) e
theorem open_nil : Open [] [] := fun r ts e h => h
theorem open_blank : Open [32] [] := fun r ts e h => Lex.blank h
theorem Open.word {cur : List Nat} {cts : List Tok3} {k : Str} {u : List Nat} (o : Open cur cts) (g : Good k u) (r : List Nat) (hr : After r) (ts : List Tok3) (e : Option Nat) (h : Lex r (cur.length + u.length) ts e) :
    Lex (cur ++ (u ++ r)) 0 ((cts ++ [(k, mk u, cur.length + 1)]) ++ ts) e := by
  rw [List.append_assoc]
  exact o _ _ _ (g r hr _ _ _ h)
theorem Open.blank1 {cur : List Nat} {cts : List Tok3} {k : Str} {u : List Nat} (o : Open cur cts) (g : Good k u) : Open (cur ++ u ++ [32]) (cts ++ [(k, mk u, cur.length + 1)]) := fun r ts e h => by
  have e1 : cur ++ u ++ [32] ++ r = cur ++ (u ++ (32 :: r)) := by simp
  rw [e1]
  refine o.word g (32 :: r) (.inr ⟨r, .inl rfl⟩) ts e (Lex.blank ?_)
  have e2 : (cur ++ u ++ [32]).length = cur.length + u.length + 1 := by simp [Nat.add_assoc]
  rw [e2] at h
  exact h
theorem Open.blank2 {cur : List Nat} {cts : List Tok3} {k : Str} {u : List Nat} (o : Open cur cts) (g : Good k u) : Open (cur ++ u ++ [32, 32]) (cts ++ [(k, mk u, cur.length + 1)]) := fun r ts e h => by
  have e1 : cur ++ u ++ [32, 32] ++ r = cur ++ (u ++ (32 :: (32 :: r))) := by simp
  rw [e1]
  refine o.word g (32 :: (32 :: r)) (.inr ⟨_, .inl rfl⟩) ts e (Lex.blank (Lex.blank ?_))
  have e2 : (cur ++ u ++ [32, 32]).length = cur.length + u.length + 1 + 1 := by simp [Nat.add_assoc]
  rw [e2] at h
  exact h
def noteL : List Nat := [35, 32, 59, 63]
/-- a row that is over -/
def Over (q : Row) : Prop := Lex q.1 0 q.2 none ∧ Lex (q.1 ++ noteL) 0 q.2 none ∧ 10 ∉ q.1
theorem Open.over {cur : List Nat} {cts : List Tok3} (o : Open cur cts) (h : 10 ∉ cur) : Over (cur, cts) := by
  refine ⟨?_, ?_, h⟩
  · have := o [] [] none (Lex.nil _)
    simpa using this
  · have := o noteL [] none (Lex.note _ _)
    simpa using this
theorem Open.over1 {cur : List Nat} {cts : List Tok3} {k : Str} {u : List Nat} (o : Open cur cts) (g : Good k u) (h1 : 10 ∉ cur) (h2 : 10 ∉ u) : Over (cur ++ u, cts ++ [(k, mk u, cur.length + 1)]) := by
  refine ⟨?_, ?_, fun h => (List.mem_append.mp h).elim h1 h2⟩
  · have := o.word g [] (.inl rfl) [] none (Lex.nil _)
    simpa using this
  · have := o.word g noteL (.inr ⟨_, .inr rfl⟩) [] none (Lex.note _ _)
    simpa [noteL] using this
def soL : List Nat := tl (Str.ofString " # so, not (X)")
theorem Open.over2 {cur : List Nat} {cts : List Tok3} {k : Str} {u : List Nat} (o : Open cur cts) (g : Good k u) (h1 : 10 ∉ cur) (h2 : 10 ∉ u) : Over (cur ++ u ++ soL, cts ++ [(k, mk u, cur.length + 1)]) := by
  have es : soL = 32 :: (35 :: (soL.drop 2)) := by decide +kernel
  refine ⟨?_, ?_, fun h => ?_⟩
  · have := o.word g soL (.inr ⟨_, .inl es⟩) [] none (by rw [es]; exact Lex.blank (Lex.note _ _))
    simpa using this
  · have := o.word g (soL ++ noteL) (.inr ⟨_, .inl (by rw [es]; rfl)⟩) [] none (by rw [es]; exact Lex.blank (Lex.note _ _))
    simpa using this
  · rcases List.mem_append.mp h with h | h
    · exact (List.mem_append.mp h).elim h1 h2
    · exact absurd h (by decide +kernel)
theorem over_nil : Over ([], []) := ⟨Lex.nil _, Lex.note _ _, by simp⟩
/-- each row followed by a line feed -/
def rowsL (rs : List Row) : List Nat := (rs.map fun q => q.1 ++ [10]).flatten
theorem rowsL_app (rs ss : List Row) : rowsL (rs ++ ss) = rowsL rs ++ rowsL ss := by
  unfold rowsL
  rw [List.map_append, List.flatten_append]
theorem joinL_rows (cur : List Nat) : ∀ rs : List Row, joinL [10] (rs.map (·.1) ++ [cur]) = rowsL rs ++ cur
  | [] => rfl
  | [q] => by
    show q.1 ++ ([10] ++ cur) = _
    simp [rowsL]
  | q :: q2 :: rs => by
    have ih := joinL_rows cur (q2 :: rs)
    show q.1 ++ ([10] ++ joinL [10] ((q2 :: rs).map (·.1) ++ [cur])) = _
    rw [ih]
    show _ = (q.1 ++ [10]) ++ (rowsL (q2 :: rs)) ++ cur
    simp
/-- where a word starts -/
def Spot (rows : List (List Nat)) (t : Tok4) : Prop := ∃ (i : Nat) (pre post : List Nat) (pts : List Tok3), t.2.2.1 = i + 1 ∧ rows[i]? = some (pre ++ post) ∧ t.2.2.2 = pre.length + 1 ∧ Open pre pts
/-- a text so far: rows that are over, the open one, k words -/
structure Bld (k : Nat) (x : List Nat) (rs : List Row) (cur : List Nat) (cts : List Tok3) : Prop where
  text : x = rowsL rs ++ cur
  over : ∀ q ∈ rs, Over q
  op : Open cur cts
  nl : 10 ∉ cur
  len : x.length ≤ 24 * k
  rows : rs.length ≤ 2 * k
  toks : (dueOf 1 (rs ++ [(cur, cts)])).length = k
  spot : ∀ t ∈ dueOf 1 (rs ++ [(cur, cts)]), ∃ (i : Nat) (pre post : List Nat) (pts : List Tok3), t.2.2.1 = i + 1 ∧ (rs.map (·.1) ++ [cur])[i]? = some (pre ++ post) ∧ t.2.2.2 = pre.length + 1 ∧ Open pre pts
end K21
namespace K21
open PySem PySem.Spec PyProof.Rows L2 TL Lore
theorem dueOf_none : ∀ (n : Nat) (more : List Row), (∀ q ∈ more, q.2 = []) → dueOf n more = []
  | _, [], _ => rfl
  | n, q :: more, h => by
    show q.2.map (at_line n) ++ dueOf (n + 1) more = []
    rw [h q List.mem_cons_self, dueOf_none (n + 1) more fun q hq => h q (List.mem_cons_of_mem _ hq)]
    rfl
theorem dueOf_step (rs more : List Row) (cur cur' : List Nat) (cts : List Tok3) (t : Tok3) (h : ∀ q ∈ more, q.2 = []) :
    dueOf 1 (rs ++ (cur', cts ++ [t]) :: more) = dueOf 1 (rs ++ [(cur, cts)]) ++ [at_line (rs.length + 1) t] := by
  rw [dueOf_app, dueOf_app]
  show _ ++ ((cts ++ [t]).map (at_line (1 + rs.length)) ++ dueOf (1 + rs.length + 1) more) = _ ++ (cts.map (at_line (1 + rs.length)) ++ []) ++ _
  rw [dueOf_none _ _ h, List.map_append, Nat.add_comm 1 rs.length]
  simp
theorem Bld.step {k : Nat} {x : List Nat} {rs rs' more : List Row} {cur cur' : List Nat} {cts cts' : List Tok3} {kd : Str} {u tail gap : List Nat} (b : Bld k x rs cur cts) (hR : rs' ++ [(cur', cts')] = rs ++ (cur ++ u ++ tail, cts ++ [(kd, Lore.mk u, cur.length + 1)]) :: more)
    (hm : ∀ q ∈ more, q.2 = []) (ht : rowsL rs' ++ cur' = rowsL rs ++ cur ++ u ++ gap) (ho : ∀ q ∈ rs', Over q) (hop : Open cur' cts') (hnl : 10 ∉ cur') (hu : u.length ≤ 8) (hg : gap.length ≤ 16) (hml : more.length ≤ 2) :
    Bld (k + 1) (x ++ u ++ gap) rs' cur' cts' ∧ dueOf 1 (rs' ++ [(cur', cts')]) = dueOf 1 (rs ++ [(cur, cts)]) ++ [(kd, Lore.mk u, rs.length + 1, cur.length + 1)] := by
  have e1 : dueOf 1 (rs' ++ [(cur', cts')]) = dueOf 1 (rs ++ [(cur, cts)]) ++ [(kd, Lore.mk u, rs.length + 1, cur.length + 1)] := by
    rw [hR, dueOf_step rs more cur _ cts _ hm]
    rfl
  refine ⟨⟨by rw [b.text, ht], ho, hop, hnl, ?_, ?_, ?_, ?_⟩, e1⟩
  · have := b.len
    rw [List.length_append, List.length_append]
    omega
  · have := b.rows
    have e := congrArg List.length hR
    simp only [List.length_append, List.length_cons, List.length_nil] at e
    omega
  · rw [e1, List.length_append, b.toks]
    rfl
  · have hrows : rs'.map (·.1) ++ [cur'] = rs.map (·.1) ++ (cur ++ u ++ tail) :: more.map (·.1) := by
      have := congrArg (List.map (·.1)) hR
      simpa using this
    intro t htm
    rw [e1] at htm
    rw [hrows]
    rcases List.mem_append.mp htm with h | h
    · obtain ⟨i, pre, post, pts, h1, h2, h3, h4⟩ := b.spot t h
      by_cases hi : i < rs.length
      · refine ⟨i, pre, post, pts, h1, ?_, h3, h4⟩
        rw [List.getElem?_append_left (by rw [List.length_map]; exact hi)] at h2 ⊢
        exact h2
      · rw [List.getElem?_append_right (by rw [List.length_map]; omega), List.length_map] at h2
        have hi2 : i = rs.length := by
          rcases Nat.lt_or_ge rs.length i with z | z
          · rw [show i - rs.length = (i - rs.length - 1) + 1 by omega] at h2
            cases h2
          · omega
        rw [hi2, Nat.sub_self] at h2
        have h2 : cur = pre ++ post := Option.some.inj h2
        refine ⟨rs.length, pre, post ++ u ++ tail, pts, by rw [h1, hi2], ?_, h3, h4⟩
        rw [List.getElem?_append_right (by rw [List.length_map]; omega), List.length_map, Nat.sub_self, List.getElem?_cons_zero, h2]
        simp
    · cases List.mem_singleton.mp h
      refine ⟨rs.length, cur, u ++ tail, cts, rfl, ?_, rfl, b.op⟩
      rw [List.getElem?_append_right (by rw [List.length_map]; omega), List.length_map, Nat.sub_self, List.getElem?_cons_zero]
      simp
section
variable {k : Nat} {x : List Nat} {rs : List Row} {cur : List Nat} {cts : List Tok3} {kd : Str} {u : List Nat}
/-- what a gap makes: the rows, the line and column behind -/
def Next (k : Nat) (x : List Nat) (rs : List Row) (cur : List Nat) (cts : List Tok3) (kd : Str) (u gap : List Nat) (feeds : Nat) (col : Nat) : Prop :=
  ∃ (rs' : List Row) (cur' : List Nat) (cts' : List Tok3), Bld (k + 1) (x ++ u ++ gap) rs' cur' cts' ∧ dueOf 1 (rs' ++ [(cur', cts')]) = dueOf 1 (rs ++ [(cur, cts)]) ++ [(kd, mk u, rs.length + 1, cur.length + 1)] ∧ rs'.length = rs.length + feeds ∧ cur'.length + 1 = col
theorem next1 (b : Bld k x rs cur cts) (g : Good kd u) (h : 10 ∉ u) (hl : u.length ≤ 8) : Next k x rs cur cts kd u [32] 0 (cur.length + 1 + u.length + 1) := by
  obtain ⟨h1, h2⟩ := b.step (rs' := rs) (cur' := cur ++ u ++ [32]) (tail := [32]) (gap := [32]) (more := []) (kd := kd) (u := u) rfl (fun q hq => by cases hq) (by simp) b.over (b.op.blank1 g) (fun z => by
    rcases List.mem_append.mp z with z | z
    · exact (List.mem_append.mp z).elim b.nl h
    · exact absurd z (by decide)) hl (by decide) (by decide)
  exact ⟨_, _, _, h1, h2, rfl, by simp; omega⟩
theorem next2 (b : Bld k x rs cur cts) (g : Good kd u) (h : 10 ∉ u) (hl : u.length ≤ 8) : Next k x rs cur cts kd u [32, 32] 0 (cur.length + 1 + u.length + 2) := by
  obtain ⟨h1, h2⟩ := b.step (rs' := rs) (cur' := cur ++ u ++ [32, 32]) (tail := [32, 32]) (gap := [32, 32]) (more := []) (kd := kd) (u := u) rfl (fun q hq => by cases hq) (by simp) b.over (b.op.blank2 g) (fun z => by
    rcases List.mem_append.mp z with z | z
    · exact (List.mem_append.mp z).elim b.nl h
    · exact absurd z (by decide)) hl (by decide) (by decide)
  exact ⟨_, _, _, h1, h2, rfl, by simp; omega⟩
theorem over_app {q : Row} (b : Bld k x rs cur cts) (h : Over q) : ∀ p ∈ rs ++ [q], Over p := fun p hp => by
  rcases List.mem_append.mp hp with z | z
  · exact b.over p z
  · cases List.mem_singleton.mp z
    exact h
theorem next3 (b : Bld k x rs cur cts) (g : Good kd u) (h : 10 ∉ u) (hl : u.length ≤ 8) : Next k x rs cur cts kd u [10] 1 1 := by
  obtain ⟨h1, h2⟩ := b.step (rs' := rs ++ [(cur ++ u, cts ++ [(kd, mk u, cur.length + 1)])]) (cur' := []) (cts' := []) (tail := []) (gap := [10]) (more := [([], [])]) (kd := kd) (u := u) (by simp) (fun q hq => by cases List.mem_singleton.mp hq; rfl)
    (by rw [rowsL_app]; simp [rowsL]) (over_app b (b.op.over1 g b.nl h)) open_nil (by simp) hl (by decide) (by decide)
  exact ⟨_, _, _, h1, h2, by simp, rfl⟩
theorem next4 (b : Bld k x rs cur cts) (g : Good kd u) (h : 10 ∉ u) (hl : u.length ≤ 8) : Next k x rs cur cts kd u (soL ++ [10]) 1 1 := by
  obtain ⟨h1, h2⟩ := b.step (rs' := rs ++ [(cur ++ u ++ soL, cts ++ [(kd, mk u, cur.length + 1)])]) (cur' := []) (cts' := []) (tail := soL) (gap := soL ++ [10]) (more := [([], [])]) (kd := kd) (u := u) (by simp) (fun q hq => by cases List.mem_singleton.mp hq; rfl)
    (by rw [rowsL_app]; simp [rowsL]) (over_app b (b.op.over2 g b.nl h)) open_nil (by simp) hl (by decide +kernel) (by decide)
  exact ⟨_, _, _, h1, h2, by simp, rfl⟩
theorem next5 (b : Bld k x rs cur cts) (g : Good kd u) (h : 10 ∉ u) (hl : u.length ≤ 8) : Next k x rs cur cts kd u [10, 10, 32] 2 2 := by
  obtain ⟨h1, h2⟩ := b.step (rs' := rs ++ [(cur ++ u, cts ++ [(kd, mk u, cur.length + 1)]), ([], [])]) (cur' := [32]) (cts' := []) (tail := []) (gap := [10, 10, 32]) (more := [([], []), ([32], [])]) (kd := kd) (u := u) (by simp) (fun q hq => by
      rcases List.mem_cons.mp hq with rfl | hq
      · rfl
      · cases List.mem_singleton.mp hq; rfl)
    (by rw [rowsL_app]; simp [rowsL]) (fun p hp => by
      rcases List.mem_append.mp hp with z | z
      · exact b.over p z
      · rcases List.mem_cons.mp z with rfl | z
        · exact b.op.over1 g b.nl h
        · cases List.mem_singleton.mp z
          exact over_nil) open_blank (by decide) hl (by decide) (by decide)
  exact ⟨_, _, _, h1, h2, by simp, rfl⟩
end
theorem bld0 : Bld 0 [] [] [] [] := ⟨rfl, (fun q hq => by cases hq), open_nil, by simp, Nat.le_refl _, Nat.le_refl _, rfl, (fun t ht => by cases ht)⟩
theorem split_parts {parts : List (List Nat)} (hne : parts ≠ []) (h : ∀ p ∈ parts, 10 ∉ p) : Txt.split (mk (joinL [10] parts)) (Str.ofString "\n") = parts.map mk := by
  have e10 : tl (Str.ofString "\n") = [10] := by decide +kernel
  refine map_tl_inj ?_
  rw [split_spl _ _ (by rw [e10]; simp) (kind_ok (by decide +kernel)), e10, tl_mk', spl_join hne h, List.map_map]
  exact (List.map_id _).symm
theorem mem_rowsL {q : Row} : ∀ {rs : List Row}, q ∈ rs → q.1.length ≤ (rowsL rs).length
  | p :: rs, h => by
    have e : rowsL (p :: rs) = p.1 ++ [10] ++ rowsL rs := rfl
    rw [e, List.length_append, List.length_append]
    rcases List.mem_cons.mp h with rfl | h
    · omega
    · have := mem_rowsL h
      omega
section
variable {x : List Nat} {rs : List Row} {cur : List Nat} {cts : List Tok3}
theorem Bld.all {k : Nat} (b : Bld k x rs cur cts) : ∀ q ∈ rs ++ [(cur, cts)], Over q ∧ q.1.length ≤ 24 * k := fun q hq => by
  have hl := b.len
  have ht := congrArg List.length b.text
  rw [List.length_append] at ht
  rcases List.mem_append.mp hq with z | z
  · have := mem_rowsL z
    exact ⟨b.over q z, by omega⟩
  · cases List.mem_singleton.mp z
    exact ⟨b.op.over b.nl, by show cur.length ≤ _; omega⟩
theorem Bld.joined {k : Nat} (b : Bld k x rs cur cts) : x = joinL [10] ((rs ++ [(cur, cts)]).map (·.1)) := by
  rw [List.map_append]
  show x = joinL [10] (rs.map (·.1) ++ [cur])
  rw [joinL_rows, b.text]
theorem Bld.isText (b : Bld 14 x rs cur cts) : Text x (rs ++ [(cur, cts)]) none := by
  have ha := b.all
  have hr := b.rows
  refine ⟨⟨[], ?_, ?_, ?_, rfl, by simp⟩, fun q hq => (ha q hq).1.1, by have := b.len; omega⟩
  · rw [List.append_nil]
    conv => lhs; rw [b.joined]
    exact split_parts (by simp) fun p hp => by
      obtain ⟨q, hq, rfl⟩ := List.mem_map.mp hp
      exact (ha q hq).1.2.2
  · rw [List.append_nil, List.length_map, List.length_append]
    have : ([(cur, cts)] : List Row).length = 1 := rfl
    omega
  · intro r hr
    rw [List.append_nil] at hr
    obtain ⟨q, hq, rfl⟩ := List.mem_map.mp hr
    have := (ha q hq).2
    omega
/-- with a note behind each row -/
theorem Bld.noted (b : Bld 14 x rs cur cts) : Text (joinL [10] ((rs ++ [(cur, cts)]).map fun q => q.1 ++ noteL)) ((rs ++ [(cur, cts)]).map fun q => (q.1 ++ noteL, q.2)) none := by
  have ha := b.all
  have hr := b.rows
  have e : ((rs ++ [(cur, cts)]).map fun q => (q.1 ++ noteL, q.2)).map (·.1) = (rs ++ [(cur, cts)]).map fun q => q.1 ++ noteL := by rw [List.map_map]; rfl
  refine ⟨⟨[], ?_, ?_, ?_, rfl, by simp⟩, fun q hq => ?_, ?_⟩
  · rw [List.append_nil, e]
    exact split_parts (by simp) fun p hp => by
      obtain ⟨q, hq, rfl⟩ := List.mem_map.mp hp
      intro z
      rcases List.mem_append.mp z with z | z
      · exact (ha q hq).1.2.2 z
      · exact absurd z (by decide)
  · rw [List.append_nil, List.length_map, List.length_map, List.length_append]
    have : ([(cur, cts)] : List Row).length = 1 := rfl
    omega
  · intro r hr
    rw [List.append_nil, e] at hr
    obtain ⟨q, hq, rfl⟩ := List.mem_map.mp hr
    have := (ha q hq).2
    rw [List.length_append]
    have : noteL.length = 4 := rfl
    omega
  · obtain ⟨p, hp, rfl⟩ := List.mem_map.mp hq
    exact (ha p hp).1.2.1
  · have key : ∀ ps : List (List Nat), (∀ p ∈ ps, p.length ≤ 1000) → (joinL [10] ps).length ≤ ps.length * 1001 := by
      intro ps
      induction ps with
      | nil => intro _; simp [joinL]
      | cons p ps ih =>
        intro hp
        have h1 := hp p List.mem_cons_self
        have h2 := ih fun q hq => hp q (List.mem_cons_of_mem _ hq)
        cases ps with
        | nil => show p.length ≤ _; simp; omega
        | cons q ps =>
          show (p ++ ([10] ++ joinL [10] (q :: ps))).length ≤ _
          rw [List.length_append, List.length_append]
          simp only [List.length_cons, List.length_nil] at h2 ⊢
          omega
    have := key ((rs ++ [(cur, cts)]).map fun q => q.1 ++ noteL) fun p hp => by
      obtain ⟨q, hq, rfl⟩ := List.mem_map.mp hp
      have := (ha q hq).2
      rw [List.length_append]
      have : noteL.length = 4 := rfl
      omega
    rw [List.length_map, List.length_append] at this
    have : ([(cur, cts)] : List Row).length = 1 := rfl
    omega
end
theorem dueOf_noted : ∀ (n : Nat) (rs : List Row), dueOf n (rs.map fun q => (q.1 ++ noteL, q.2)) = dueOf n rs
  | _, [] => rfl
  | n, q :: rs => by
    show q.2.map (at_line n) ++ dueOf (n + 1) (rs.map fun q => (q.1 ++ noteL, q.2)) = q.2.map (at_line n) ++ dueOf (n + 1) rs
    rw [dueOf_noted (n + 1) rs]
end K21
namespace K21
open PySem PySem.Spec PyProof.Rows L2 TL Lore
def kindsL : List (Str × Str) := [(Str.ofString "name", Str.ofString "road"), (Str.ofString "name", Str.ofString "a"), (Str.ofString "name", Str.ofString "abcdefgh"), (Str.ofString "key", Str.ofString "not"), (Str.ofString "key", Str.ofString "count"),
  (Str.ofString "variable", Str.ofString "X"), (Str.ofString "variable", Str.ofString "Q7"), (Str.ofString "number", Str.ofString "0"), (Str.ofString "number", Str.ofString "999"),
  (Str.ofString "number", Str.ofString "10"), (Str.ofString "sign", Str.ofString ":-"), (Str.ofString "sign", Str.ofString "<="), (Str.ofString "sign", Str.ofString "!="), (Str.ofString "sign", Str.ofString "("), (Str.ofString "sign", Str.ofString ")"),
  (Str.ofString "sign", Str.ofString ","), (Str.ofString "sign", Str.ofString "."), (Str.ofString "sign", Str.ofString "<"), (Str.ofString "sign", Str.ofString "=")]
/-- a word that may be put -/
def WordOk (k x : Str) : Prop := Good k (tl x) ∧ (tl x).length ≤ 8 ∧ 10 ∉ tl x
theorem run_ok {k x : Str} {c : Nat} {u : List Nat} (e : tl x = c :: u) (h1 : ∀ d ∈ c :: u, inRun d = true) (h2 : kindV (c :: u) = some k) (h3 : (c :: u).length ≤ 8) (h4 : 10 ∉ c :: u) : WordOk k x := by
  unfold WordOk
  rw [e]
  exact ⟨good_run h1 h2, h3, h4⟩
theorem sign_ok {x : Str} {c : Nat} {u : List Nat} (e : tl x = c :: u) (h1 : inRun c = false) (h2 : c ≠ 32) (h3 : c ≠ 35) (h4 : ∀ r, After r → signV (c :: (u ++ r)) = some (mk (c :: u))) (h5 : (c :: u).length ≤ 8) (h6 : 10 ∉ c :: u) : WordOk (Str.ofString "sign") x := by
  unfold WordOk
  rw [e]
  exact ⟨good_sign h1 h2 h3 h4, h5, h6⟩
theorem sv {c : Nat} {u : List Nat} (h0 : signV (c :: u) = some (mk (c :: u))) (h1 : ∀ r, signV (c :: (u ++ (32 :: r))) = some (mk (c :: u))) (h2 : ∀ r, signV (c :: (u ++ (35 :: r))) = some (mk (c :: u))) : ∀ r, After r → signV (c :: (u ++ r)) = some (mk (c :: u)) := fun r hr => by
  rcases hr with rfl | ⟨r', rfl | rfl⟩
  · rw [List.append_nil]; exact h0
  · exact h1 r'
  · exact h2 r'
theorem kinds_ok : ∀ q ∈ kindsL, WordOk q.1 q.2 := by
  intro q hq
  simp only [kindsL, List.mem_cons, List.mem_nil_iff, or_false] at hq
  rcases hq with rfl | rfl | rfl | rfl | rfl | rfl | rfl | rfl | rfl | rfl | rfl | rfl | rfl | rfl | rfl | rfl | rfl | rfl | rfl
  · exact run_ok (c := 114) (u := [111, 97, 100]) (by decide +kernel) (by decide +kernel) (by decide +kernel) (by decide) (by decide)
  · exact run_ok (c := 97) (u := []) (by decide +kernel) (by decide +kernel) (by decide +kernel) (by decide) (by decide)
  · exact run_ok (c := 97) (u := [98, 99, 100, 101, 102, 103, 104]) (by decide +kernel) (by decide +kernel) (by decide +kernel) (by decide) (by decide)
  · exact run_ok (c := 110) (u := [111, 116]) (by decide +kernel) (by decide +kernel) (by decide +kernel) (by decide) (by decide)
  · exact run_ok (c := 99) (u := [111, 117, 110, 116]) (by decide +kernel) (by decide +kernel) (by decide +kernel) (by decide) (by decide)
  · exact run_ok (c := 88) (u := []) (by decide +kernel) (by decide +kernel) (by decide +kernel) (by decide) (by decide)
  · exact run_ok (c := 81) (u := [55]) (by decide +kernel) (by decide +kernel) (by decide +kernel) (by decide) (by decide)
  · exact run_ok (c := 48) (u := []) (by decide +kernel) (by decide +kernel) (by decide +kernel) (by decide) (by decide)
  · exact run_ok (c := 57) (u := [57, 57]) (by decide +kernel) (by decide +kernel) (by decide +kernel) (by decide) (by decide)
  · exact run_ok (c := 49) (u := [48]) (by decide +kernel) (by decide +kernel) (by decide +kernel) (by decide) (by decide)
  · exact sign_ok (c := 58) (u := [45]) (by decide +kernel) (by decide +kernel) (by decide) (by decide) (sv (by rw [signV_eq]; rfl) (fun _ => by rw [signV_eq]; rfl) (fun _ => by rw [signV_eq]; rfl)) (by decide) (by decide)
  · exact sign_ok (c := 60) (u := [61]) (by decide +kernel) (by decide +kernel) (by decide) (by decide) (sv (by rw [signV_eq]; rfl) (fun _ => by rw [signV_eq]; rfl) (fun _ => by rw [signV_eq]; rfl)) (by decide) (by decide)
  · exact sign_ok (c := 33) (u := [61]) (by decide +kernel) (by decide +kernel) (by decide) (by decide) (sv (by rw [signV_eq]; rfl) (fun _ => by rw [signV_eq]; rfl) (fun _ => by rw [signV_eq]; rfl)) (by decide) (by decide)
  · exact sign_ok (c := 40) (u := []) (by decide +kernel) (by decide +kernel) (by decide) (by decide) (sv (by rw [signV_eq]; rfl) (fun _ => by rw [signV_eq]; rfl) (fun _ => by rw [signV_eq]; rfl)) (by decide) (by decide)
  · exact sign_ok (c := 41) (u := []) (by decide +kernel) (by decide +kernel) (by decide) (by decide) (sv (by rw [signV_eq]; rfl) (fun _ => by rw [signV_eq]; rfl) (fun _ => by rw [signV_eq]; rfl)) (by decide) (by decide)
  · exact sign_ok (c := 44) (u := []) (by decide +kernel) (by decide +kernel) (by decide) (by decide) (sv (by rw [signV_eq]; rfl) (fun _ => by rw [signV_eq]; rfl) (fun _ => by rw [signV_eq]; rfl)) (by decide) (by decide)
  · exact sign_ok (c := 46) (u := []) (by decide +kernel) (by decide +kernel) (by decide) (by decide) (sv (by rw [signV_eq]; rfl) (fun _ => by rw [signV_eq]; rfl) (fun _ => by rw [signV_eq]; rfl)) (by decide) (by decide)
  · exact sign_ok (c := 60) (u := []) (by decide +kernel) (by decide +kernel) (by decide) (by decide) (sv (by rw [signV_eq]; rfl) (fun _ => by rw [signV_eq]; rfl) (fun _ => by rw [signV_eq]; rfl)) (by decide) (by decide)
  · exact sign_ok (c := 61) (u := []) (by decide +kernel) (by decide +kernel) (by decide) (by decide) (sv (by rw [signV_eq]; rfl) (fun _ => by rw [signV_eq]; rfl) (fun _ => by rw [signV_eq]; rfl)) (by decide) (by decide)
def gapsS : List Str := [Str.ofString " ", Str.ofString "  ", Str.ofString "\n", Str.ofString " # so, not (X)\n", Str.ofString "\n\n "]
/-- a gap: its line feeds, its last one's place, what it makes -/
def GapOk (g : Str) : Prop := ∃ (feeds : Nat) (rf : Int), Txt.count g (Str.ofString "\n") = (feeds : Int) ∧ Txt.rfind g (Str.ofString "\n") = rf ∧ (tl g).length ≤ 16 ∧
  ∀ {k : Nat} {x : List Nat} {rs : List Row} {cur : List Nat} {cts : List Tok3} {kd : Str} {u : List Nat}, Bld k x rs cur cts → Good kd u → 10 ∉ u → u.length ≤ 8 →
    ∃ col : Nat, Next k x rs cur cts kd u (tl g) feeds col ∧ (if 0 < feeds then ((tl g).length : Int) - rf = (col : Int) else cur.length + 1 + u.length + (tl g).length = col)
theorem l15 : (soL ++ [10]).length = 15 := by decide +kernel
theorem gaps_ok : ∀ g ∈ gapsS, GapOk g := by
  intro g hg
  simp only [gapsS, List.mem_cons, List.mem_nil_iff, or_false] at hg
  rcases hg with rfl | rfl | rfl | rfl | rfl
  · refine ⟨0, -1, by decide +kernel, by decide +kernel, by decide +kernel, fun {k x rs cur cts kd u} b g h hl => ⟨cur.length + 1 + u.length + 1, ?_, ?_⟩⟩
    · rw [show tl (Str.ofString " ") = [32] by decide +kernel]
      exact next1 b g h hl
    · rw [show tl (Str.ofString " ") = [32] by decide +kernel]
      rfl
  · refine ⟨0, -1, by decide +kernel, by decide +kernel, by decide +kernel, fun {k x rs cur cts kd u} b g h hl => ⟨cur.length + 1 + u.length + 2, ?_, ?_⟩⟩
    · rw [show tl (Str.ofString "  ") = [32, 32] by decide +kernel]
      exact next2 b g h hl
    · rw [show tl (Str.ofString "  ") = [32, 32] by decide +kernel]
      rfl
  · refine ⟨1, 0, by decide +kernel, by decide +kernel, by decide +kernel, fun {k x rs cur cts kd u} b g h hl => ⟨1, ?_, ?_⟩⟩
    · rw [show tl (Str.ofString "\n") = [10] by decide +kernel]
      exact next3 b g h hl
    · rw [show tl (Str.ofString "\n") = [10] by decide +kernel]
      rfl
  · refine ⟨1, 14, by decide +kernel, by decide +kernel, by decide +kernel, fun {k x rs cur cts kd u} b g h hl => ⟨1, ?_, ?_⟩⟩
    · rw [show tl (Str.ofString " # so, not (X)\n") = soL ++ [10] by decide +kernel]
      exact next4 b g h hl
    · rw [show tl (Str.ofString " # so, not (X)\n") = soL ++ [10] by decide +kernel, if_pos (show 0 < 1 by decide), l15]
      decide
  · refine ⟨2, 1, by decide +kernel, by decide +kernel, by decide +kernel, fun {k x rs cur cts kd u} b g h hl => ⟨2, ?_, ?_⟩⟩
    · rw [show tl (Str.ofString "\n\n ") = [10, 10, 32] by decide +kernel]
      exact next5 b g h hl
    · rw [show tl (Str.ofString "\n\n ") = [10, 10, 32] by decide +kernel]
      rfl
theorem join_lex : ∀ (l : List Tok4), l ≠ [] → (∀ t ∈ l, Good t.1 (tl t.2.1)) → ∀ (a : Nat) (tail : List Nat) (ts : List Tok3), After tail → Lex tail (a + (joinL [32] (l.map fun t => tl t.2.1)).length) ts none →
    ∃ tks : List Tok3, Lex (joinL [32] (l.map fun t => tl t.2.1) ++ tail) a (tks ++ ts) none ∧ tks.map (·.2.1) = l.map (·.2.1)
  | [], h, _, _, _, _, _, _ => absurd rfl h
  | [t], _, hg, a, tail, ts, ht, hl => by
    have g := hg t List.mem_cons_self
    refine ⟨[(t.1, mk (tl t.2.1), a + 1)], g tail ht a ts none hl, ?_⟩
    simp [mk_tl']
  | t :: q :: r, _, hg, a, tail, ts, ht, hl => by
    have g := hg t List.mem_cons_self
    have e : joinL [32] ((t :: q :: r).map fun t => tl t.2.1) = tl t.2.1 ++ (32 :: joinL [32] ((q :: r).map fun t => tl t.2.1)) := rfl
    rw [e] at hl ⊢
    obtain ⟨tks, h1, h2⟩ := join_lex (q :: r) (by simp) (fun z hz => hg z (List.mem_cons_of_mem _ hz)) (a + (tl t.2.1).length + 1) tail ts ht (by
      rw [List.length_append, List.length_cons] at hl
      rw [show a + (tl t.2.1).length + 1 + (joinL [32] ((q :: r).map fun t => tl t.2.1)).length = a + ((tl t.2.1).length + ((joinL [32] ((q :: r).map fun t => tl t.2.1)).length + 1)) by omega]
      exact hl)
    refine ⟨(t.1, mk (tl t.2.1), a + 1) :: tks, ?_, ?_⟩
    · rw [List.append_assoc]
      exact g _ (.inr ⟨_, .inl rfl⟩) a _ none (Lex.blank h1)
    · rw [List.map_cons, List.map_cons, h2]
      simp [mk_tl']
theorem join_nl : ∀ (ps : List (List Nat)), (∀ p ∈ ps, 10 ∉ p) → 10 ∉ joinL [32] ps
  | [], _ => by simp [joinL]
  | [p], h => h p List.mem_cons_self
  | p :: q :: r, h => fun z => by
    rcases List.mem_append.mp (show 10 ∈ p ++ ([32] ++ joinL [32] (q :: r)) from z) with z | z
    · exact h p List.mem_cons_self z
    · rcases List.mem_append.mp z with z | z
      · exact absurd z (by decide)
      · exact join_nl (q :: r) (fun y hy => h y (List.mem_cons_of_mem _ hy)) z
theorem join_len : ∀ (ps : List (List Nat)) (m : Nat), (∀ p ∈ ps, p.length ≤ m) → (joinL [32] ps).length ≤ ps.length * (m + 1)
  | [], _, _ => by simp [joinL]
  | [p], m, h => by
    have := h p List.mem_cons_self
    show p.length ≤ _
    simp only [List.length_cons, List.length_nil]
    omega
  | p :: q :: r, m, h => by
    have h1 := h p List.mem_cons_self
    have h2 := join_len (q :: r) m fun y hy => h y (List.mem_cons_of_mem _ hy)
    show (p ++ ([32] ++ joinL [32] (q :: r))).length ≤ _
    rw [List.length_append, List.length_append, List.length_cons (as := q :: r), Nat.succ_mul]
    simp only [List.length_cons, List.length_nil] at h2 ⊢
    omega
/-- one row -/
theorem one_row {x : List Nat} {ts : List Tok3} (h : 10 ∉ x) (hl : x.length ≤ 1000) (hx : Lex x 0 ts none) : Text x [(x, ts)] none := by
  refine ⟨⟨[], ?_, by simp, ?_, rfl, by simp⟩, fun q hq => ?_, by omega⟩
  · exact split_parts (parts := [x]) (by simp) fun p hp => by
      cases List.mem_singleton.mp hp
      exact h
  · intro r hr
    cases List.mem_singleton.mp hr
    show x.length ≤ 10000
    omega
  · cases List.mem_singleton.mp hq
    exact hx
theorem words_one {x : List Nat} {ts : List Tok3} : wordsOf [(x, ts)] = ts.map (·.2.1) := by
  unfold wordsOf dueOf
  rw [show dueOf (1 + 1) ([] : List Row) = [] from rfl, List.append_nil, List.map_map]
  rfl
def BadW (b : List Nat) (off : Nat) : Prop := ∀ (a : Nat) (r : List Nat), ∃ ts, Lex (b ++ (32 :: r)) a ts (some (a + off + 1))
theorem bad_run {c : Nat} {u : List Nat} (h1 : ∀ d ∈ c :: u, inRun d = true) (h2 : kindV (c :: u) = none) : BadW (c :: u) 0 := fun a r => ⟨[], Lex.badRun h1 (After.stop (.inr ⟨r, .inl rfl⟩)) h2⟩
theorem bad_sign {c : Nat} (h1 : inRun c = false) (h2 : c ≠ 32) (h3 : c ≠ 35) (h4 : ∀ r, signV (c :: (32 :: r)) = none) : BadW [c] 0 := fun a r => ⟨[], Lex.badSign h1 h2 h3 (h4 r)⟩
theorem bad_ab : BadW (tl (Str.ofString "a_b")) 1 := fun a r => by
  have e : tl (Str.ofString "a_b") = [97, 95, 98] := by decide +kernel
  rw [e]
  refine ⟨[(Str.ofString "name", mk [97], a + 1)], ?_⟩
  exact Lex.run (c := 97) (u := []) (r := 95 :: 98 :: 32 :: r) (by decide +kernel) (fun d hd => by cases hd; decide +kernel) (by decide +kernel) (Lex.badSign (by decide +kernel) (by decide) (by decide) (by rw [signV_eq]; rfl))
def badsS : List Str := [Str.ofString "007", Str.ofString "1000", Str.ofString "ab1", Str.ofString "Xy", Str.ofString "X11", Str.ofString "abcdefghi", Str.ofString ";", Str.ofString "?", Str.ofString "-", Str.ofString "a_b", Str.ofString "!", Str.ofString ":", Str.ofString "\t"]
def offOf (b : Str) : Nat := if decide (V.str b = V.str (Str.ofString "a_b")) = true then 1 else 0
theorem bads_ok : ∀ b ∈ badsS, BadW (tl b) (offOf b) ∧ (tl b).length ≤ 9 ∧ 10 ∉ tl b := by
  intro b hb
  refine ⟨?_, ?_⟩
  rotate_left
  · revert b
    decide +kernel
  · simp only [badsS, List.mem_cons, List.mem_nil_iff, or_false] at hb
    have o0 : ∀ s : Str, decide (V.str s = V.str (Str.ofString "a_b")) = false → offOf s = 0 := fun s h => by unfold offOf; rw [h]; rfl
    rcases hb with rfl | rfl | rfl | rfl | rfl | rfl | rfl | rfl | rfl | rfl | rfl | rfl | rfl
    · rw [o0 _ (by decide +kernel), show tl (Str.ofString "007") = [48, 48, 55] by decide +kernel]
      exact bad_run (by decide +kernel) (by decide +kernel)
    · rw [o0 _ (by decide +kernel), show tl (Str.ofString "1000") = [49, 48, 48, 48] by decide +kernel]
      exact bad_run (by decide +kernel) (by decide +kernel)
    · rw [o0 _ (by decide +kernel), show tl (Str.ofString "ab1") = [97, 98, 49] by decide +kernel]
      exact bad_run (by decide +kernel) (by decide +kernel)
    · rw [o0 _ (by decide +kernel), show tl (Str.ofString "Xy") = [88, 121] by decide +kernel]
      exact bad_run (by decide +kernel) (by decide +kernel)
    · rw [o0 _ (by decide +kernel), show tl (Str.ofString "X11") = [88, 49, 49] by decide +kernel]
      exact bad_run (by decide +kernel) (by decide +kernel)
    · rw [o0 _ (by decide +kernel), show tl (Str.ofString "abcdefghi") = [97, 98, 99, 100, 101, 102, 103, 104, 105] by decide +kernel]
      exact bad_run (by decide +kernel) (by decide +kernel)
    · rw [o0 _ (by decide +kernel), show tl (Str.ofString ";") = [59] by decide +kernel]
      exact bad_sign (by decide +kernel) (by decide) (by decide) (fun _ => by rw [signV_eq]; rfl)
    · rw [o0 _ (by decide +kernel), show tl (Str.ofString "?") = [63] by decide +kernel]
      exact bad_sign (by decide +kernel) (by decide) (by decide) (fun _ => by rw [signV_eq]; rfl)
    · rw [o0 _ (by decide +kernel), show tl (Str.ofString "-") = [45] by decide +kernel]
      exact bad_sign (by decide +kernel) (by decide) (by decide) (fun _ => by rw [signV_eq]; rfl)
    · have e1 : offOf (Str.ofString "a_b") = 1 := by decide +kernel
      rw [e1]
      exact bad_ab
    · rw [o0 _ (by decide +kernel), show tl (Str.ofString "!") = [33] by decide +kernel]
      exact bad_sign (by decide +kernel) (by decide) (by decide) (fun _ => by rw [signV_eq]; rfl)
    · rw [o0 _ (by decide +kernel), show tl (Str.ofString ":") = [58] by decide +kernel]
      exact bad_sign (by decide +kernel) (by decide) (by decide) (fun _ => by rw [signV_eq]; rfl)
    · rw [o0 _ (by decide +kernel), show tl (Str.ofString "\t") = [9] by decide +kernel]
      exact bad_sign (by decide +kernel) (by decide) (by decide) (fun _ => by rw [signV_eq]; rfl)
/-- the rows with a spoilt word put in -/
theorem spoilt {x : List Nat} {rs : List Row} {i : Nat} {pre post bw : List Nat} {pts : List Tok3} {off : Nat} (ha : ∀ q ∈ rs, Over q ∧ q.1.length ≤ 336) (hn : rs.length ≤ 29) (hi : (rs.map (·.1))[i]? = some (pre ++ post)) (ho : Open pre pts) (hb : BadW bw off) (hbl : bw.length ≤ 9) (hb10 : 10 ∉ bw)
    (hx : x = joinL [10] ((rs.map (·.1)).take i ++ [pre ++ bw ++ [32] ++ post] ++ (rs.map (·.1)).drop (i + 1))) : Text x (rs.take i) (some (pre.length + off + 1)) ∧ (rs.take i).length = i ∧ (∀ r ∈ (List.map (fun q : Row => q.1) rs).take i ++ [pre ++ bw ++ [32] ++ post] ++ (List.map (fun q : Row => q.1) rs).drop (i + 1), r.length ≤ 400) ∧ ((List.map (fun q : Row => q.1) rs).take i ++ [pre ++ bw ++ [32] ++ post] ++ (List.map (fun q : Row => q.1) rs).drop (i + 1)).length ≤ 30 := by
  have hil : i < rs.length := by
    rcases Nat.lt_or_ge i rs.length with z | z
    · exact z
    · rw [List.getElem?_eq_none (by rw [List.length_map]; exact z)] at hi
      cases hi
  have hrow := hi
  obtain ⟨q0, hq0, e0⟩ := List.mem_map.mp (List.mem_of_getElem? hi)
  have hq := ha q0 hq0
  have hnl : 10 ∉ pre ++ post := by rw [← e0]; exact hq.1.2.2
  have hpl : (pre ++ post).length ≤ 336 := by rw [← e0]; exact hq.2
  have hlen : (rs.take i).length = i := by rw [List.length_take]; omega
  have hL : ∃ ts, Lex (pre ++ bw ++ [32] ++ post) 0 ts (some (pre.length + off + 1)) := by
    obtain ⟨ts, h⟩ := hb pre.length post
    refine ⟨pts ++ ts, ?_⟩
    have := ho _ _ _ h
    rw [show pre ++ bw ++ [32] ++ post = pre ++ (bw ++ (32 :: post)) by simp]
    exact this
  have em : (rs.map (·.1)).take i ++ [pre ++ bw ++ [32] ++ post] ++ (rs.map (·.1)).drop (i + 1) = (rs.take i).map (·.1) ++ ((pre ++ bw ++ [32] ++ post) :: (rs.drop (i + 1)).map (·.1)) := by
    rw [List.map_take, List.map_drop]
    simp
  have hall : ∀ r ∈ (rs.take i).map (·.1) ++ ((pre ++ bw ++ [32] ++ post) :: (rs.drop (i + 1)).map (·.1)), 10 ∉ r ∧ r.length ≤ 400 := by
    intro r hr
    rcases List.mem_append.mp hr with z | z
    · obtain ⟨q, hq, rfl⟩ := List.mem_map.mp z
      have := ha q (List.mem_of_mem_take hq)
      exact ⟨this.1.2.2, by omega⟩
    · rcases List.mem_cons.mp z with rfl | z
      · refine ⟨fun y => ?_, ?_⟩
        · simp only [List.mem_append] at y hnl
          rcases y with ((y | y) | y) | y
          · exact hnl (.inl y)
          · exact hb10 y
          · exact absurd y (by decide)
          · exact hnl (.inr y)
        · simp only [List.length_append, List.length_cons, List.length_nil] at hpl ⊢
          omega
      · obtain ⟨q, hq, rfl⟩ := List.mem_map.mp z
        have := ha q (List.mem_of_mem_drop hq)
        exact ⟨this.1.2.2, by omega⟩
  have hcount : ((rs.take i).map (·.1) ++ ((pre ++ bw ++ [32] ++ post) :: (rs.drop (i + 1)).map (·.1))).length ≤ 30 := by
    rw [List.length_append, List.length_map, List.length_cons, List.length_map, List.length_take, List.length_drop]
    omega
  rw [em] at hx
  obtain ⟨ts, hL⟩ := hL
  refine ⟨⟨⟨(pre ++ bw ++ [32] ++ post) :: (rs.drop (i + 1)).map (·.1), ?_, Nat.le_trans hcount (by decide), fun r hr => Nat.le_trans (hall r hr).2 (by decide), _, _, ts, rfl, hL⟩, fun q hq => (ha q (List.mem_of_mem_take hq)).1.1, ?_⟩, hlen, by rw [em]; exact fun r hr => (hall r hr).2, by rw [em]; exact hcount⟩
  · rw [hx]
    exact split_parts (by simp) fun p hp => (hall p hp).1
  · rw [hx]
    have key : ∀ ps : List (List Nat), (∀ p ∈ ps, p.length ≤ 400) → (joinL [10] ps).length ≤ ps.length * 401 := by
      intro ps
      induction ps with
      | nil => intro _; simp [joinL]
      | cons p ps ih =>
        intro hp
        have h1 := hp p List.mem_cons_self
        have h2 := ih fun q hq => hp q (List.mem_cons_of_mem _ hq)
        cases ps with
        | nil => show p.length ≤ _; simp; omega
        | cons q ps =>
          show (p ++ ([10] ++ joinL [10] (q :: ps))).length ≤ _
          rw [List.length_append, List.length_append]
          simp only [List.length_cons, List.length_nil] at h2 ⊢
          omega
    have := key _ fun p hp => (hall p hp).2
    omega
theorem sum_len {m : Nat} : ∀ ys : List Str, (∀ y ∈ ys, y.length ≤ m) → (ys.map (·.length)).sum ≤ m * ys.length
  | [], _ => by simp
  | y :: ys, h => by
    have h1 := h y List.mem_cons_self
    have h2 := sum_len ys fun z hz => h z (List.mem_cons_of_mem _ hz)
    simp only [List.map_cons, List.sum_cons, List.length_cons, Nat.mul_succ]
    omega
def runsL : List (Str × V) := [(Str.ofString "road", .str (Str.ofString "name")), (Str.ofString "roads7", .non), (Str.ofString "not", .str (Str.ofString "key")), (Str.ofString "7", .str (Str.ofString "number")), (Str.ofString "70", .str (Str.ofString "number")), (Str.ofString "07", .non), (Str.ofString "1000", .non),
  (Str.ofString "X", .str (Str.ofString "variable")), (Str.ofString "X7", .str (Str.ofString "variable")), (Str.ofString "XY", .non), (Str.ofString "Road", .non), (Str.ofString "abcdefghi", .non), (Str.ofString "7a", .non)]
theorem runs_ok : ∀ q ∈ runsL, optV (kindV (tl q.1)) = q.2 ∧ tl q.1 ≠ [] ∧ (tl q.1).length ≤ 9 := by decide +kernel
end K21
namespace K21
open PySem PySem.Spec PyProof.Rows L2 TL Lore LoreX LamX
/-- what the law's listener asks of the error's class -/
structure Hd (K : PySem.W.Frag) (mg : Str → Option Value) (C : Addr) : Prop where
  gl : mg "BadText" = some (.ref C)
  xf : XfC K C
  n1 : PySem.W.findIn K (.ref C) "line" = some none
  n2 : PySem.W.findIn K (.ref C) "column" = some none
  ex : PySem.W.exmOne K (.ref C) (.ref C) = some true
  hd : ∃ g fd, FnP K "_law_heard" s_law_heard g fd ∧ mg "_law_heard" = some (.ref g)
theorem sc_heard : FnScope ["act", "error"] ["act"] (defScope s_law_heard) := ⟨rfl, rfl, rfl, by decide +kernel, rfl, by decide +kernel, by decide +kernel⟩
theorem pe_heard {X : Cx} {C c P : Addr} {k : Nat} {T : List (Addr × Str)} {params : Arguments} {body : Expr} {scope : Scope} {t : XK → TE} {p lpos pos : Pos} (h : Hd X.K X.mg C) (TB : TabB X.base X.mg c P) (hcode : X.env.code = .ref c) (hmT : (P, X.env.qual ++ "<lambda>") ∈ T)
    (hu : ∀ p ∈ T, p.1 = P → p.2 = X.env.qual ++ "<lambda>") (hr : Room (k + 2) X.A) (L : LamS X.env.scope scope)
    (hbody : ∀ (A : Around) (outer : List Env) (s : Shared) (H : Hp) (E : XK) (f c' : Addr), Room k (A.deeper (lamEnv X scope s.heap.objs.size f c')) → PE (lamCx X A outer s H E scope f c') body (t E))
    (hbind : ∀ (q : Str) (cl : List (Str × Addr)) (pm cv ctv : Value), bindArgs (PySem.W.kla_fn "<lambda>" q params body scope cl pm cv ctv) ⟨[], []⟩ = pure [] := by intros; rfl) (hdef : defaultsOf params X.env = ([], []) := by rfl) (hg : Gl X "_law_heard" := by rfl) :
    PE X (.Call (.Name "_law_heard" p) [.Lambda params body scope lpos] [] pos) (tLam T (TTheard2 C "told" "text" "line" "column") t) := by
  obtain ⟨g, fd, F, gm⟩ := h.hd
  have b := F.bindsN (ps := ["act"]) fun _ _ _ _ _ _ us hl => match us, hl with | [_], _ => rfl
  have kp := F.kp
  obtain ⟨oc, od, dV, kV, doc, pm, an, cdv, ct, osl, rfl, lk, hcd, _, _⟩ := F.ex
  refine pe_lamcall (Ng := ["act", "error"]) (a := "act") hg gm kp lk hcd b sc_heard rfl (.inl rfl) ?_ TB hcode hmT hu hr L hdef hbind hbody
  exact heard2_gives (C := C) rfl rfl (by decide) h.gl (by decide) (by decide) (by decide) h.xf h.n1 h.n2 h.ex
end K21
namespace K21
open PySem PySem.Spec PyProof.Rows L2 TL Lore LamX
def lamQ : Str := (envOfC "law" (defScope s_law) 0 0 .none).qual ++ "<lambda>"
def kindsV : List (V × V) := kindsL.map fun q => (.str q.1, .str q.2)
/-- what stands through the law -/
structure LH (H : Hp) (p c kl PT : Addr) : Prop where
  bag : BagAt H p c
  kin : ∃ m : List (Addr × (V × V)), H kl = some (.lst (m.map fun q => .ref q.1)) ∧ (∀ q ∈ m, H q.1 = some (.tup [q.2.1, q.2.2])) ∧ m.map (·.2) = kindsV ∧ kl ≠ p
  tab : TabS H PT lamQ
theorem LH.same {H H' : Hp} {p c kl PT : Addr} (h : LH H p c kl PT) (s : Same H H') : LH H' p c kl PT := by
  obtain ⟨m, h1, h2, h3, h4⟩ := h.kin
  exact ⟨h.bag.same s, ⟨m, s _ _ h1, fun q hq => s _ _ (h2 q hq), h3, h4⟩, h.tab.ext s⟩
theorem LH.at {H : Hp} {p c kl PT : Addr} (h : LH H p c kl PT) : ∃ xs, H p = some (.lst xs) := by
  obtain ⟨⟨z, s, n, h1, _⟩, _⟩ := h.bag
  exact ⟨_, h1⟩
theorem LH.but {H H' : Hp} {p c kl PT : Addr} (h : LH H p c kl PT) (s : SameBut p H H') (b : BagAt H' p c) : LH H' p c kl PT := by
  obtain ⟨m, h1, h2, h3, h4⟩ := h.kin
  obtain ⟨xs, hp⟩ := h.at
  exact ⟨b, ⟨m, s _ _ h1 h4, fun q hq => s _ _ (h2 q hq) (ne_of (h2 q hq) hp (by intro z; cases z)), h3, h4⟩, Lore.TabS.but h.tab s hp⟩
theorem LH.ext {H H' : Hp} {p c kl PT : Addr} (h : LH H p c kl PT) (e : ExtN H H') (t : Tabs [(PT, lamQ)] H') : LH H' p c kl PT := by
  obtain ⟨m, h1, h2, h3, h4⟩ := h.kin
  obtain ⟨⟨z, s, n, b1, b2⟩, ns, b3, b4⟩ := h.bag
  exact ⟨⟨⟨z, s, n, e _ _ b1 (by intro _ z; cases z), b2⟩, ns, e _ _ b3 (by intro _ z; cases z), b4⟩, ⟨m, e _ _ h1 (by intro _ z; cases z), fun q hq => e _ _ (h2 q hq) (by intro _ z; cases z), h3, h4⟩, t (PT, lamQ) (List.mem_singleton.mpr rfl)⟩
theorem LH.tabs {H : Hp} {p c kl PT : Addr} (h : LH H p c kl PT) : Tabs [(PT, lamQ)] H := fun q hq => by
  cases List.mem_singleton.mp hq
  exact h.tab
/-- an object of one's own, a list at d, is written -/
theorem LH.wr {H : Hp} {p c kl PT d : Addr} {xs ys : List V} (h : LH H p c kl PT) (hd : H d = some (.lst xs)) (n1 : d ≠ p) (n2 : d ≠ c) (n3 : d ≠ kl) : LH (upd H d (.lst ys)) p c kl PT := by
  obtain ⟨m, h1, h2, h3, h4⟩ := h.kin
  obtain ⟨⟨z, s, n, b1, b2⟩, ns, b3, b4⟩ := h.bag
  obtain ⟨ps, t1, t2, t3⟩ := h.tab
  refine ⟨⟨⟨z, s, n, by rw [upd_ne n1.symm]; exact b1, b2⟩, ns, by rw [upd_ne n2.symm]; exact b3, b4⟩, ⟨m, by rw [upd_ne n3.symm]; exact h1, fun q hq => ?_, h3, h4⟩, ⟨ps, ?_, t2, fun pos cv hc => ?_⟩⟩
  · rw [upd_ne (ne_of (h2 q hq) hd (by intro z; cases z))]
    exact h2 q hq
  · rw [upd_ne (ne_of t1 hd (by intro z; cases z))]
    exact t1
  · obtain ⟨cc, e1, e2⟩ := t3 pos cv hc
    exact ⟨cc, e1, by rw [upd_ne (ne_of e2 hd (by unfold CodeO; intro z; cases z))]; exact e2⟩
theorem len25 : ∀ l : L2.St, l.length = 25 → ∃ o3 o4 o5 o6 o7 o8 o9 o10 o11 o12 o13 o14 o15 o16 o17 o18 o19 o20 o21 o22 o23 o24 o25 o26 o27 : Option V, l = [o3, o4, o5, o6, o7, o8, o9, o10, o11, o12, o13, o14, o15, o16, o17, o18, o19, o20, o21, o22, o23, o24, o25, o26, o27]
  | [o3, o4, o5, o6, o7, o8, o9, o10, o11, o12, o13, o14, o15, o16, o17, o18, o19, o20, o21, o22, o23, o24, o25, o26, o27], _ => ⟨_, _, _, _, _, _, _, _, _, _, _, _, _, _, _, _, _, _, _, _, _, _, _, _, _, rfl⟩
/-- the list of words due -/
structure Due (H : Hp) (d : Addr) (l : List (Addr × Tok4)) : Prop where
  at_ : H d = some (.lst (l.map fun q => .ref q.1))
  tok : ∀ q ∈ l, T4 H q.1 q.2
theorem Due.same {H H' : Hp} {d : Addr} {l : List (Addr × Tok4)} (h : Due H d l) (s : Same H H') : Due H' d l := ⟨s _ _ h.at_, fun q hq => s _ _ (h.tok q hq)⟩
theorem Due.but {H H' : Hp} {d p : Addr} {l : List (Addr × Tok4)} {xs : List V} (h : Due H d l) (s : SameBut p H H') (hp : H p = some (.lst xs)) (n : d ≠ p) : Due H' d l := ⟨s _ _ h.at_ n, fun q hq => s _ _ (h.tok q hq) (ne_of (h.tok q hq) hp (by intro z; cases z))⟩
theorem Due.ext {H H' : Hp} {d : Addr} {l : List (Addr × Tok4)} (h : Due H d l) (e : ExtN H H') : Due H' d l := ⟨e _ _ h.at_ (by intro _ z; cases z), fun q hq => e _ _ (h.tok q hq) (by intro _ z; cases z)⟩
end K21
namespace K21
open PySem PySem.Spec PyProof.Rows L2 TL Lore LamX
def tokD (t : Tok4) : PyData := .tuple [.str t.1, .str t.2.1, .int (t.2.2.1 : Nat), .int (t.2.2.2 : Nat)]
theorem dp_tok {K : PySem.W.Frag} {H : Hp} {a : Addr} {t : Tok4} (h : T4 H a t) : Dp K H (.ref a) (tokD t) := .tup (.of h) (.cons (.str _) (.cons (.str _) (.cons (.int _) (.cons (.int _) .nil))))
theorem dp_toks {K : PySem.W.Frag} {H : Hp} : ∀ {l : List (Addr × Tok4)}, (∀ q ∈ l, T4 H q.1 q.2) → DpAll K H (l.map fun q => .ref q.1) ((l.map (·.2)).map tokD)
  | [], _ => .nil
  | q :: l, h => .cons (dp_tok (h q List.mem_cons_self)) (dp_toks fun z hz => h z (List.mem_cons_of_mem _ hz))
theorem dp_toksT {K : PySem.W.Frag} {H : Hp} {p : Addr} {ts : List Tok4} (h : ToksT H p ts) : Dp K H (.ref p) (.tuple (ts.map tokD)) := by
  obtain ⟨l, h1, h2, h3⟩ := h
  rw [← h3]
  exact .tup (.of h1) (dp_toks h2)
theorem dp_strs {K : PySem.W.Frag} {H : Hp} {p : Addr} {ys : List Str} (h : H p = some (.tup (ys.map V.str))) : Dp K H (.ref p) (.tuple (ys.map PyData.str)) := .tup (.of h) (DpAll.strs ys)
theorem sz_toks : ∀ ts : List Tok4, szL (ts.map tokD) = 5 * ts.length
  | [] => rfl
  | t :: ts => by
    have e : szD (tokD t) = 5 := rfl
    rw [List.map_cons, szL, e, sz_toks ts, List.length_cons]
    omega
theorem sz_strs : ∀ ys : List Str, szL (ys.map PyData.str) = ys.length
  | [] => rfl
  | y :: ys => by
    have e : szD (PyData.str y) = 1 := rfl
    rw [List.map_cons, szL, e, sz_strs ys, List.length_cons]
    omega
theorem ToksT.same {H H' : Hp} {p : Addr} {ts : List Tok4} (h : ToksT H p ts) (s : Same H H') : ToksT H' p ts := by
  obtain ⟨l, h1, h2, h3⟩ := h
  exact ⟨l, s _ _ h1, fun q hq => s _ _ (h2 q hq), h3⟩
/-- the last of them -/
theorem ToksT.last {H : Hp} {p : Addr} {ts : List Tok4} {t : Tok4} (h : ToksT H p (ts ++ [t])) : ∃ (xs : List V) (a : Addr), H p = some (.tup xs) ∧ atI xs (-1) = some (.ref a) ∧ T4 H a t := by
  obtain ⟨l, h1, h2, h3⟩ := h
  obtain ⟨l1, l2, e1, e2, e3⟩ := List.map_eq_append_iff.mp h3
  obtain ⟨q, e4, e5⟩ := List.map_eq_singleton_iff.mp e3
  subst e1 e4
  refine ⟨_, q.1, h1, ?_, ?_⟩
  · rw [List.map_append]
    exact atI_last _ _
  · rw [← e5]
    exact h2 q (List.mem_append_right _ (List.mem_singleton.mpr rfl))
section
variable {x : List Nat} {rs : List Row} {cur : List Nat} {cts : List Tok3}
def joinW (rs : List Row) : List Nat := joinL [32] ((dueOf 1 rs).map fun t => tl t.2.1)
theorem str_join (R : List Row) : Str.join (mk [32]) (wordsOf R) = mk (joinW R) := ext_tl (by
  rw [tl_join, tl_mk', tl_mk']
  unfold wordsOf joinW
  rw [List.map_map]
  rfl)
theorem Bld.otherRow {R : List Row} (hlen : (dueOf 1 R).length = 14) (w : ∀ t ∈ dueOf 1 R, WordOk t.1 t.2.1) (tail : List Nat) (ts : List Tok3) (ht : After tail) (hl : ∀ a, Lex tail a (ts.map fun t => (t.1, t.2.1, a + t.2.2)) none) (h10 : 10 ∉ tail) (htl : tail.length ≤ 10) :
    ∃ tks : List Tok3, Text (joinW R ++ tail) [(joinW R ++ tail, tks)] none ∧ wordsOf [(joinW R ++ tail, tks)] = wordsOf R ++ ts.map (·.2.1) := by
  have hne : dueOf 1 R ≠ [] := fun z => by rw [z] at hlen; cases hlen
  obtain ⟨tks, h1, h2⟩ := join_lex (dueOf 1 R) hne (fun t h => (w t h).1) 0 tail _ ht (hl _)
  refine ⟨_, one_row ?_ ?_ h1, ?_⟩
  · intro z
    rcases List.mem_append.mp z with z | z
    · refine join_nl _ (fun p hp => ?_) z
      obtain ⟨t, h, rfl⟩ := List.mem_map.mp hp
      exact (w t h).2.2
    · exact h10 z
  · have := join_len ((dueOf 1 R).map fun t => tl t.2.1) 8 fun p hp => by
      obtain ⟨t, h, rfl⟩ := List.mem_map.mp hp
      exact (w t h).2.1
    rw [List.length_map, hlen] at this
    rw [List.length_append]
    unfold joinW
    omega
  · rw [words_one, List.map_append, h2, List.map_map]
    rfl
end
theorem noteS : Str.ofString "# ;?" = mk noteL := by decide +kernel
def onlyL : List Nat := tl (Str.ofString "# only")
theorem onlyS : Str.ofString "# only" = mk onlyL := (mk_tl' _).symm
theorem only_text : Text onlyL [(onlyL, [])] none := one_row (by decide +kernel) (by decide +kernel) (by
  have e : onlyL = 35 :: onlyL.drop 1 := by decide +kernel
  rw [e]
  exact Lex.note _ _)
theorem only_toks : dueOf 1 [(onlyL, ([] : List Tok3))] ++ [endOf [(onlyL, [])]] = [(Str.ofString "end", Str.ofString "", 1, 7)] := by decide +kernel
theorem nil_text : Text [] [([], [])] none := one_row (by simp) (by simp) (Lex.nil _)
theorem words_noted (R : List Row) : wordsOf (R.map fun q => (q.1 ++ noteL, q.2)) = wordsOf R := by
  unfold wordsOf
  rw [dueOf_noted]
def toD : V → PyData
  | .str x => .str x
  | _ => .none
theorem dp_runs {K : PySem.W.Frag} {H : Hp} : DpAll K H (runsL.map (·.2)) ((runsL.map (·.2)).map toD) :=
  .cons (.str _) (.cons .non (.cons (.str _) (.cons (.str _) (.cons (.str _) (.cons .non (.cons .non (.cons (.str _) (.cons (.str _) (.cons .non (.cons .non (.cons .non (.cons .non .nil))))))))))))
def runsV : List (V × V) := runsL.map fun q => (.str q.1, q.2)
theorem xd_line {a b : V} : ([(Str.ofString "column", a), (Str.ofString "line", b)] : List (Str × V)).lookup (Str.ofString "line") = some b := by
  have h : (Str.ofString "line" == Str.ofString "column") = false := by decide +kernel
  have h2 : (Str.ofString "line" == Str.ofString "line") = true := by decide +kernel
  simp only [List.lookup, h, h2]
theorem xd_col {a b : V} : ([(Str.ofString "column", a), (Str.ofString "line", b)] : List (Str × V)).lookup (Str.ofString "column") = some a := by
  have h2 : (Str.ofString "column" == Str.ofString "column") = true := by decide +kernel
  simp only [List.lookup, h2]
theorem rows_of {R : List Row} {x : List Nat} (h : Text x R none) : Txt.split (mk x) (Str.ofString "\n") = (R.map (·.1)).map mk := by
  obtain ⟨⟨more, h1, _, _, h2, _⟩, _⟩ := h
  rw [h1, h2, List.append_nil]
theorem cutV_take (xs : List V) {i : Nat} (h : i ≤ xs.length) : cutV xs none (some (i : Int)) = xs.take i := by
  unfold cutV
  rw [HT.sIx_nat, HT.sIx_none, List.drop_zero, Nat.sub_zero, Nat.min_eq_left h]
theorem cutV_drop (xs : List V) {i : Nat} (h : i ≤ xs.length) : cutV xs (some (i : Int)) none = xs.drop i := by
  unfold cutV
  rw [HT.sIx_nat, HT.sIx_none, Nat.min_eq_left h, List.take_of_length_le (by rw [List.length_drop]; omega)]
theorem join_nlS (ys : List (List Nat)) : Txt.join (Str.ofString "\n") (ys.map mk) = mk (joinL [10] ys) := ext_tl (by
  rw [join_eq, tl_join, tl_mk', List.map_map, show tl (Str.ofString "\n") = [10] by decide +kernel]
  congr 1
  exact List.map_id _)
end K21
namespace K21
open PySem PySem.Spec PyProof.Rows L2 TL Lore LoreX LamX
abbrev lawN : List Str := ["script", "bag", "kinds", "turn", "due", "line", "column", "again", "kind", "word", "gap", "feeds", "lines", "its", "at", "words", "other", "found", "end", "place", "bad", "row", "off", "note", "runs", "some", "text", "run"]
/-- the defs that the law calls -/
structure Cs (P : Program) (w : World) (K : PySem.W.Frag) (mg : Str → Option Value) (base : Heap) (C : Addr) where
  cTake : Cal P w K mg base CX0 1 "_law_take" ["bag", "many"] spTake
  cBag : Cal P w K mg base CX0 1 "_law_bag" ["script"] (spBag K)
  cSome : Cal P w K mg base CX0 2 "_law_some" ["bag", "things"] (spSome K)
  cAl : Cal P w K mg base CX0 1 "_law_alike" ["found", "due"] (spAlike K)
  cSp : Cal P w K mg base CX0 1 "spaced" ["words"] (spSpaced K)
  cK : Cal P w K mg base CX0 1 "kind_of_run" ["run"] spKind
  cW : Cal P w K mg base (L2.CX P w) 4 "words_of" ["text"] (spWords C)
  cP : Cal P w K mg base (L2.CX P w) 5 "plain_words" ["text"] (spPlain C)
  cL : Cal P w K mg base (L2.CX P w) 6 "are_alike" ["one", "other"] (spLike C)
def spLaw (K : PySem.W.Frag) (P : Addr) : Sp := fun vs H Q _ => ∃ (a : Addr) (ns : List Int), vs = [.ref a] ∧ SqL K H a (ns.map V.int) ∧ H P = some (.tbl #[]) ∧ ∀ H', Q (.bl true) H'
theorem sc_law : FnScope lawN ["script"] (defScope s_law) := ⟨rfl, rfl, rfl, by decide +kernel, rfl, by decide +kernel, by decide +kernel⟩
section
variable {P : Program} {w : World} {K : PySem.W.Frag} {mg : Str → Option Value} {base : Heap} {f : Addr} {fd : FuncData}
theorem law_body {C c PT : Addr} {A : Around} {outer : List Env} {s : Shared} {H : Hp} {vs : List V} {Q : VK} {E : XK} (X : Fx K mg) (S : Cs P w K mg base C) (hd : Hd K mg C) (TB : TabB base mg c PT)
    (hr : Room 8 (A.deeper (envOfC "law" (defScope s_law) s.heap.objs.size f (.ref c)))) (h : spLaw K PT vs H Q E) :
    ∃ t, PSs (cxOf CX0 P w K mg base lawN "law" (defScope s_law) f (.ref c) A outer s H E) (defBody s_law) t ∧ t { nx := fun _ H' => Q .non H', rt := Q } (L2.start lawN vs) H := by
  have nd := sc_law.nd
  have x23 : ∀ p ∈ [(PT, lamQ)], p.1 = PT → p.2 = lamQ := fun p hp _ => by cases List.mem_singleton.mp hp; rfl
  obtain ⟨a, ns, rfl, ha, hT, k⟩ := h
  refine ⟨_, PSs.nox (pss_cons (ps_set (i := 1) nd rfl (.inl rfl) (pe_cal S.cBag (hr.mono (by decide)) pass0 (pa_cons (pv 0) pa_nil)))
  (pss_cons (ps_set (i := 2) nd rfl (.inl rfl) (pe_lst (pa_pr pe_str pe_str (pa_pr pe_str pe_str (pa_pr pe_str pe_str (pa_pr pe_str pe_str (pa_pr pe_str pe_str (pa_pr pe_str pe_str (pa_pr pe_str pe_str (pa_pr pe_str pe_str (pa_pr pe_str pe_str pa_prn)))))))))))
  (pss_cons (ps_set (i := 2) nd rfl (.inl rfl) (pe_op op_cat (pv 2) (pe_lst (pa_pr pe_str pe_str (pa_pr pe_str pe_str (pa_pr pe_str pe_str (pa_pr pe_str pe_str (pa_pr pe_str pe_str (pa_pr pe_str pe_str (pa_pr pe_str pe_str (pa_pr pe_str pe_str (pa_pr pe_str pe_str (pa_pr pe_str pe_str pa_prn)))))))))))))
  (pss_cons (ps_for PassesOwn.never rfl (pi_range1 (by rfl) X.range (pa_cons pe_int pa_nil)) (pg_name (i := 3) nd rfl (.inl rfl))
  (pss_cons (ps_asg (pe_tup (pa_cons pe_str (pa_cons (pe_lst pa_nil) (pa_cons pe_int (pa_cons pe_int pa_nil))))) (pg_tup (by rfl) (pgs_cons (pg_name (i := 26) nd rfl (.inr rfl)) (pgs_cons (pg_name (i := 4) nd rfl (.inl rfl)) (pgs_cons (pg_name (i := 5) nd rfl (.inl rfl)) (pgs_cons (pg_name (i := 6) nd rfl (.inl rfl)) pgs_nil))))))
    (pss_cons (ps_for PassesOwn.never rfl (pi_range1 (by rfl) X.range (pa_cons pe_int pa_nil)) (pg_name (i := 7) nd rfl (.inl rfl))
    (pss_cons (ps_asg (pe_cal S.cSome (hr.mono (by decide)) pass0 (pa_cons (pv 1) (pa_cons (pv 2) pa_nil))) (pg_tup (by rfl) (pgs_cons (pg_name (i := 8) nd rfl (.inl rfl)) (pgs_cons (pg_name (i := 9) nd rfl (.inl rfl)) pgs_nil))))
      (pss_cons (ps_set (i := 10) nd rfl (.inl rfl) (pe_cal S.cSome (hr.mono (by decide)) pass0 (pa_cons (pv 1) (pa_cons (pe_lst (pa_cons pe_str (pa_cons pe_str (pa_cons pe_str (pa_cons pe_str (pa_cons pe_str pa_nil)))))) pa_nil))))
      (pss_cons (ps_expr (pe_bm PySem.F.plainAttrs_list PySem.F.slot_list_append PySem.F.type_list_append mt_append (pv 4) (pa_cons (pe_tup (pa_cons (pv 8) (pa_cons (pv 9) (pa_cons (pv 5) (pa_cons (pv 6) pa_nil))))) pa_nil)))
      (pss_cons (ps_set (i := 26) nd rfl (.inr rfl) (pe_op op_add_str (pe_op op_add_str (pv 26) (pv 9)) (pv 10)))
      (pss_cons (ps_set (i := 11) nd rfl (.inl rfl) (pe_m1 F.slot_str_count F.type_str_count mt_count (pv 10) pe_str))
      (pss_cons (ps_set (i := 5) nd rfl (.inl rfl) (pe_op op_add (pv 5) (pv 11)))
      (pss_one (ps_set (i := 6) nd rfl (.inl rfl) (pe_ifExp (pt_cmpR op_gt (pv 11) pe_int (nomark _)) (pe_op op_sub (pe_callB call_len_str (by rfl) X.len boot_len (pa_cons (pv 10) pa_nil)) (pe_m1 F.slot_str_rfind F.type_str_rfind mt_rfind (pv 10) pe_str)) (pe_op op_add (pe_op op_add (pv 6) (pe_callB call_len_str (by rfl) X.len boot_len (pa_cons (pv 9) pa_nil))) (pe_callB call_len_str (by rfl) X.len boot_len (pa_cons (pv 10) pa_nil)))))))))))))
    (pss_cons (ps_set (i := 12) nd rfl (.inl rfl) (pe_split (pv 26) pe_str))
    (pss_cons (ps_setLc (i := 15) (own := [("kind", 8), ("word", 9), ("its", 13), ("at", 14)]) (g := (gTup K 4 (gCons (gName 8) (gCons (gName 9) (gCons (gName 13) (gCons (gName 14) gNil)))))) (tt := tYes) rfl nd rfl rfl (sw_true rfl rfl rfl (by decide +kernel)) (pi_list (pv 4)) (blkOk_by (N := ["script", "bag", "kinds", "turn", "due", "line", "column", "again", "kind", "word", "gap", "feeds", "lines", "its", "at", "words", "other", "found", "end", "place", "bad", "row", "off", "note", "runs", "some", "text", "run"]) (sc := defScope s_law) (by decide +kernel)) (fun _ _ _ _ _ => (pg_tup (by rfl) (pgs_cons (pg_name (i := 8) nd rfl (.inl rfl)) (pgs_cons (pg_name (i := 9) nd rfl (.inl rfl)) (pgs_cons (pg_name (i := 13) nd rfl (.inl rfl)) (pgs_cons (pg_name (i := 14) nd rfl (.inl rfl)) pgs_nil)))))) (fun _ _ _ _ _ => pts_nil) (fun _ _ _ _ _ => (pv 9)))
    (pss_cons (ps_set (i := 16) nd rfl (.inl rfl) (pe_cal S.cSp (hr.mono (by decide)) pass0 (pa_cons (pv 15) pa_nil)))
    (pss_cons (ps_set (i := 17) nd rfl (.inl rfl) (pe_lst (pa_cons (pe_cal S.cW (hr.mono (by decide)) passL (pa_cons (pv 26) pa_nil)) (pa_cons (pe_cal S.cP (hr.mono (by decide)) passL (pa_cons (pv 26) pa_nil)) (pa_cons (pe_cal S.cL (hr.mono (by decide)) passL (pa_cons (pv 26) (pa_cons (pv 16) pa_nil))) (pa_cons (pv 16) (pa_cons (pe_cal S.cP (hr.mono (by decide)) passL (pa_cons (pv 16) pa_nil)) (pa_cons (pe_cal S.cL (hr.mono (by decide)) passL (pa_cons (pv 26) (pa_cons (pe_op op_add_str (pv 16) pe_str) pa_nil))) (pa_cons (pe_ix ix_tup (pe_cal S.cW (hr.mono (by decide)) passL (pa_cons (pv 26) pa_nil)) (pe_un un_neg pe_int) (fun _ _ => rfl)) pa_nil)))))))))
    (pss_cons (ps_set (i := 18) nd rfl (.inl rfl) (pe_tup (pa_cons pe_str (pa_cons pe_str (pa_cons (pe_callB call_len_seq (by rfl) X.len boot_len (pa_cons (pv 12) pa_nil)) (pa_cons (pe_op op_add (pe_callB call_len_str (by rfl) X.len boot_len (pa_cons (pe_ix ix_list (pv 12) (pe_un un_neg pe_int) (fun _ _ => rfl)) pa_nil)) pe_int) pa_nil))))))
    (pss_cons (ps_if (pt_not (pt_val (pe_cal S.cAl (hr.mono (by decide)) pass0 (pa_cons (pv 17) (pa_cons (pe_lst (pa_cons (pe_callTy call_tuple_of (by rfl) X.tuple boot_tuple (pa_cons (pe_op op_cat (pv 4) (pe_lst (pa_cons (pv 18) pa_nil))) pa_nil)) (pa_cons (pe_callTy call_tuple_of (by rfl) X.tuple boot_tuple (pa_cons (pv 15) pa_nil)) (pa_cons pe_bl (pa_cons (pe_join pe_str (pv 15)) (pa_cons (pe_callTy call_tuple_of (by rfl) X.tuple boot_tuple (pa_cons (pv 15) pa_nil)) (pa_cons pe_bl (pa_cons (pv 18) pa_nil)))))))) pa_nil))))) (pss_one (ps_ret pe_bl)) pss_nil)
    (pss_cons (ps_set (i := 14) nd rfl (.inl rfl) (pe_cal S.cTake (hr.mono (by decide)) pass0 (pa_cons (pv 1) (pa_cons (pe_callB call_len_seq (by rfl) X.len boot_len (pa_cons (pv 4) pa_nil)) pa_nil))))
    (pss_cons (ps_asg (pe_ix ix_list (pv 4) (pv 14) (fun _ _ => rfl)) (pg_tup (by rfl) (pgs_cons (pg_name (i := 8) nd rfl (.inl rfl)) (pgs_cons (pg_name (i := 9) nd rfl (.inl rfl)) (pgs_cons (pg_name (i := 13) nd rfl (.inl rfl)) (pgs_cons (pg_name (i := 19) nd rfl (.inl rfl)) pgs_nil))))))
    (pss_cons (ps_for PassesOwn.never rfl (pi_tup (pe_tup (pa_cons pe_str (pa_cons pe_str (pa_cons pe_str (pa_cons pe_str (pa_cons pe_str (pa_cons pe_str (pa_cons pe_str (pa_cons pe_str (pa_cons pe_str (pa_cons pe_str (pa_cons pe_str (pa_cons pe_str (pa_cons pe_str pa_nil))))))))))))))) (pg_name (i := 20) nd rfl (.inl rfl))
    (pss_cons (ps_set (i := 21) nd rfl (.inl rfl) (pe_ix ix_list (pv 12) (pe_op op_sub (pv 13) pe_int) (fun _ _ => rfl)))
      (pss_cons (ps_set (i := 25) nd rfl (.inr rfl) (pe_join pe_str (pe_op op_cat (pe_op op_cat (pe_slice sl_list (pv 12) po_none (po_some (pe_op op_sub (pv 13) pe_int))) (pe_lst (pa_cons (pe_op op_add_str (pe_op op_add_str (pe_op op_add_str (pe_slice sl_str (pv 21) po_none (po_some (pe_op op_sub (pv 19) pe_int))) (pv 20)) pe_str) (pe_slice sl_str (pv 21) (po_some (pe_op op_sub (pv 19) pe_int)) po_none)) pa_nil))) (pe_slice sl_list (pv 12) (po_some (pv 13)) po_none))))
      (pss_cons (ps_set (i := 22) nd rfl (.inl rfl) (pe_ifExp (pt_cmpR op_eq (pv 20) pe_str (nomark _)) pe_int pe_int))
      (pss_cons (ps_set (i := 17) nd rfl (.inl rfl) (pe_lst (pa_cons (pe_heard hd TB rfl (T := [(PT, lamQ)]) (List.mem_singleton.mpr rfl) (x23) (hr.mono (by decide)) (lamS_by (sc := defScope s_law) (by decide +kernel)) (fun A outer s H E f c' hr2 => pe_cal S.cW hr2 (passT (takes_of rfl rfl rfl rfl)) (pa_cons (pv 25) pa_nil))) pa_nil)))
      (pss_cons (ps_expr (pe_bm PySem.F.plainAttrs_list PySem.F.slot_list_append PySem.F.type_list_append mt_append (pv 17) (pa_cons (pe_heard hd TB rfl (T := [(PT, lamQ)]) (List.mem_singleton.mpr rfl) (x23) (hr.mono (by decide)) (lamS_by (sc := defScope s_law) (by decide +kernel)) (fun A outer s H E f c' hr2 => pe_cal S.cP hr2 (passT (takes_of rfl rfl rfl rfl)) (pa_cons (pv 25) pa_nil))) pa_nil)))
      (pss_cons (ps_if (pt_not (pt_val (pe_cal S.cAl (hr.mono (by decide)) pass0 (pa_cons (pv 17) (pa_cons (pe_op op_rep (pe_lst (pa_cons (pe_tup (pa_cons pe_str (pa_cons (pv 13) (pa_cons (pe_op op_add (pv 19) (pv 22)) pa_nil)))) pa_nil)) pe_int) pa_nil))))) (pss_one (ps_ret pe_bl)) pss_nil)
      (pss_one (ps_if (pt_not (pt_val (pe_cal S.cAl (hr.mono (by decide)) pass0 (pa_cons (pe_heard hd TB rfl (T := [(PT, lamQ)]) (List.mem_singleton.mpr rfl) (x23) (hr.mono (by decide)) (lamS_by (sc := defScope s_law) (by decide +kernel)) (fun A outer s H E f c' hr2 => pe_cal S.cL hr2 (passT (takes_of rfl rfl rfl rfl)) (pa_cons (pv 26) (pa_cons (pv 25) pa_nil)))) (pa_cons (pe_tup (pa_cons pe_str (pa_cons (pv 13) (pa_cons (pe_op op_add (pv 19) (pv 22)) pa_nil)))) pa_nil))))) (pss_one (ps_ret pe_bl)) pss_nil)))))))))
    (pss_cons (ps_set (i := 23) nd rfl (.inl rfl) (pe_join pe_str (pe_lc (own := [("row", 21)]) (g := (gName 21)) (tt := tYes) rfl nd (pi_list (pv 12)) (blkOk_by (N := ["script", "bag", "kinds", "turn", "due", "line", "column", "again", "kind", "word", "gap", "feeds", "lines", "its", "at", "words", "other", "found", "end", "place", "bad", "row", "off", "note", "runs", "some", "text", "run"]) (sc := defScope s_law) (by decide +kernel)) (fun _ _ _ _ _ => (pg_name (i := 21) nd rfl (.inl rfl))) (fun _ _ _ _ _ => pts_nil) (fun _ _ _ _ _ => (pe_op op_add_str (pv 21) pe_str)))))
    (pss_cons (ps_if (pt_not (pt_val (pe_cal S.cAl (hr.mono (by decide)) pass0 (pa_cons (pe_lst (pa_cons (pe_cal S.cP (hr.mono (by decide)) passL (pa_cons (pv 23) pa_nil)) (pa_cons (pe_cal S.cL (hr.mono (by decide)) passL (pa_cons (pv 23) (pa_cons (pv 26) pa_nil))) (pa_cons (pe_cal S.cP (hr.mono (by decide)) passL (pa_cons pe_str pa_nil)) (pa_cons (pe_cal S.cW (hr.mono (by decide)) passL (pa_cons pe_str pa_nil)) pa_nil))))) (pa_cons (pe_lst (pa_cons (pe_callTy call_tuple_of (by rfl) X.tuple boot_tuple (pa_cons (pv 15) pa_nil)) (pa_cons pe_bl (pa_cons (pe_tup pa_nil) (pa_cons (pe_tup (pa_cons (pe_tup (pa_cons pe_str (pa_cons pe_str (pa_cons pe_int (pa_cons pe_int pa_nil))))) pa_nil)) pa_nil))))) pa_nil))))) (pss_one (ps_ret pe_bl)) pss_nil)
    (pss_cons (ps_set (i := 24) nd rfl (.inl rfl) (pe_lst (pa_pr pe_str pe_str (pa_pr pe_str pe_non (pa_pr pe_str pe_str (pa_pr pe_str pe_str (pa_pr pe_str pe_str (pa_pr pe_str pe_non (pa_pr pe_str pe_non pa_prn)))))))))
    (pss_cons (ps_set (i := 24) nd rfl (.inl rfl) (pe_op op_cat (pv 24) (pe_lst (pa_pr pe_str pe_str (pa_pr pe_str pe_str (pa_pr pe_str pe_non (pa_pr pe_str pe_non (pa_pr pe_str pe_non (pa_pr pe_str pe_non pa_prn)))))))))
    (pss_one (ps_if (pt_not (pt_val (pe_cal S.cAl (hr.mono (by decide)) pass0 (pa_cons (pe_lc (own := [("run", 27), ("kind", 8)]) (g := (gTup K 2 (gCons (gName 27) (gCons (gName 8) gNil)))) (tt := tYes) rfl nd (pi_list (pv 24)) (blkOk_by (N := ["script", "bag", "kinds", "turn", "due", "line", "column", "again", "kind", "word", "gap", "feeds", "lines", "its", "at", "words", "other", "found", "end", "place", "bad", "row", "off", "note", "runs", "some", "text", "run"]) (sc := defScope s_law) (by decide +kernel)) (fun _ _ _ _ _ => (pg_tup (by rfl) (pgs_cons (pg_name (i := 27) nd rfl (.inl rfl)) (pgs_cons (pg_name (i := 8) nd rfl (.inl rfl)) pgs_nil)))) (fun _ _ _ _ _ => pts_nil) (fun _ _ _ _ _ => (pe_cal S.cK (hr.mono (by decide)) pass0 (pa_cons (pv 27) pa_nil)))) (pa_cons (pe_lc (own := [("run", 27), ("kind", 8)]) (g := (gTup K 2 (gCons (gName 27) (gCons (gName 8) gNil)))) (tt := tYes) rfl nd (pi_list (pv 24)) (blkOk_by (N := ["script", "bag", "kinds", "turn", "due", "line", "column", "again", "kind", "word", "gap", "feeds", "lines", "its", "at", "words", "other", "found", "end", "place", "bad", "row", "off", "note", "runs", "some", "text", "run"]) (sc := defScope s_law) (by decide +kernel)) (fun _ _ _ _ _ => (pg_tup (by rfl) (pgs_cons (pg_name (i := 27) nd rfl (.inl rfl)) (pgs_cons (pg_name (i := 8) nd rfl (.inl rfl)) pgs_nil)))) (fun _ _ _ _ _ => pts_nil) (fun _ _ _ _ _ => (pv 8))) pa_nil))))) (pss_one (ps_ret pe_bl)) pss_nil))))))))))))))))))
  (pss_one (ps_ret pe_bl)))))), ?_⟩
  have hz := sizeLine_eq
  refine r_set ?_
  refine ⟨_, rfl, a, ns, rfl, ha, fun p c0 H1 S1 hp hc B1 => ?_⟩
  refine r_set ?_
  refine pairs_lst _ (by show 9 ≤ sizeLine; omega) _ _ _ fun m1 H2 k1 S2 hm1 hn1 hv1 hk1 => ?_
  refine r_set ?_
  refine r_op (r_var rfl ?_)
  refine pairs_lst _ (by show 10 ≤ sizeLine; omega) _ _ _ fun m2 H3 k2 S3 hm2 hn2 hv2 hk2 => ?_
  have hk13 := S3 _ _ (upd_same (H := H2) (a := k1) (o := .lst (m1.map fun q => V.ref q.1)))
  have n12 : k1 ≠ k2 := ne_of_none hk13 hk2
  have l1 : m1.length = 9 := by rw [← List.length_map (f := Prod.snd), hv1]; rfl
  have l2 : m2.length = 10 := by rw [← List.length_map (f := Prod.snd), hv2]; rfl
  refine ⟨k1, k2, _, _, rfl, rfl, by rw [upd_ne n12]; exact hk13, upd_same, by rw [List.length_map, List.length_map]; omega, fun kl hkl => ?_⟩
  have SA : Same H2 H3 := ((Same.refl H2).new hk1).trans S3
  have SB : Same H3 (upd (upd H3 k2 (.lst (m2.map fun q => V.ref q.1))) kl (.lst (m1.map (fun q => V.ref q.1) ++ m2.map fun q => V.ref q.1))) := ((Same.refl H3).new hk2).new hkl
  have B4 := ((B1.same S2).same SA).same SB
  have L4 : LH (upd (upd H3 k2 (.lst (m2.map fun q => V.ref q.1))) kl (.lst (m1.map (fun q => V.ref q.1) ++ m2.map fun q => V.ref q.1))) p c0 kl PT := by
    refine ⟨B4, ⟨m1 ++ m2, ?_, fun q hq => ?_, ?_, ?_⟩, (TabS.nil hT).ext (((S1.trans S2).trans SA).trans SB)⟩
    · rw [upd_same, List.map_append]
    · rcases List.mem_append.mp hq with h | h
      · exact SB _ _ (SA _ _ (hm1 q h))
      · exact SB _ _ (hm2 q h)
    · rw [List.map_append, hv1, hv2]
      rfl
    · intro z
      obtain ⟨z0, s0, n0, b1, _⟩ := (((B1.same S2).same SA).at_)
      have := ((Same.refl H3).new (o := .lst (m2.map fun q => V.ref q.1)) hk2) _ _ b1
      rw [← z, hkl] at this
      cases this
  generalize upd (upd H3 k2 (.lst (m2.map fun q => V.ref q.1))) kl (.lst (m1.map (fun q => V.ref q.1) ++ m2.map fun q => V.ref q.1)) = H4 at L4 ⊢
  clear B4 SB SA n12 hk13 hkl hk2 hv2 hn2 hm2 S3 hk1 hv1 hn1 hm1 S2 B1 hc hp S1 hT ha l1 l2
  refine r_forR (n := 4) (by decide) (fun _ σ H' => (∃ rest : L2.St, σ = some (.ref a) :: some (.ref p) :: some (.ref kl) :: rest ∧ rest.length = 25) ∧ LH H' p c0 kl PT) ⟨⟨_, rfl, rfl⟩, L4⟩ (fun turn σ H5 hturn hP => ?_) (fun σ H' _ => k _)
  obtain ⟨⟨rest, rfl, hrest⟩, L5⟩ := hP
  obtain ⟨o3, o4, o5, o6, o7, o8, o9, o10, o11, o12, o13, o14, o15, o16, o17, o18, o19, o20, o21, o22, o23, o24, o25, o26, o27, rfl⟩ := len25 rest hrest
  refine r_asg ?_
  refine ⟨by show 0 ≤ sizeLine; omega, fun d hd0 => ⟨by show 4 ≤ sizeLine; omega, fun tq htq => ⟨tq, _, rfl, .of upd_same, rfl, _, _, rfl, _, _, rfl, _, _, rfl, _, _, rfl, rfl, ?_⟩⟩⟩
  have ndt : d ≠ tq := ne_of_none upd_same htq
  have S6 : Same H5 (upd (upd H5 d (.lst [])) tq (.tup [V.str (Str.ofString ""), V.ref d, V.int 1, V.int 1])) := ((Same.refl H5).new hd0).new htq
  have L6 := L5.same S6
  have D6 : Due (upd (upd H5 d (.lst [])) tq (.tup [V.str (Str.ofString ""), V.ref d, V.int 1, V.int 1])) d [] := ⟨by rw [upd_ne ndt, upd_same]; rfl, fun q hq => by cases hq⟩
  have dp : d ≠ p := fun z => by
    obtain ⟨xs, hx⟩ := L5.at
    rw [← z, hd0] at hx
    cases hx
  have dc : d ≠ c0 := fun z => by
    obtain ⟨_, nsc, hx, _⟩ := L5.bag
    rw [← z, hd0] at hx
    cases hx
  have dkl : d ≠ kl := fun z => by
    obtain ⟨m, hx, _⟩ := L5.kin
    rw [← z, hd0] at hx
    cases hx
  generalize upd (upd H5 d (.lst [])) tq (.tup [V.str (Str.ofString ""), V.ref d, V.int 1, V.int 1]) = H6 at L6 D6 ⊢
  clear S6 ndt htq
  rw [nE]
  refine r_forR (n := 14) (by decide) (fun i σ H' => ∃ (x : List Nat) (rs : List Row) (cur : List Nat) (cts : List Tok3) (l : List (Addr × Tok4)) (o7 o8 o9 o10 o11 : Option V),
    σ = [some (.ref a), some (.ref p), some (.ref kl), some (.int (0 + (turn : Nat))), some (.ref d), some (.int ((rs.length + 1 : Nat) : Int)), some (.int ((cur.length + 1 : Nat) : Int)), o7, o8, o9, o10, o11, o12, o13, o14, o15, o16, o17, o18, o19, o20, o21, o22, o23, o24, o25, some (.str (mk x)), o27] ∧
    LH H' p c0 kl PT ∧ Due H' d l ∧ l.map (·.2) = dueOf 1 (rs ++ [(cur, cts)]) ∧ Bld i x rs cur cts ∧ ∀ t ∈ dueOf 1 (rs ++ [(cur, cts)]), WordOk t.1 t.2.1)
    ⟨[], [], [], [], [], _, _, _, _, _, rfl, L6, D6, rfl, bld0, (fun t ht => by cases ht)⟩ (fun i σ H7 hi hP => ?_) (fun σ H7 hP => ?_)
  · obtain ⟨x, rs, cur, cts, l, o7, o8, o9, o10, o11, rfl, L7, D7, hl7, b7, w7⟩ := hP
    refine r_asg ?_
    obtain ⟨m, hm1, hm2, hm3, hm4⟩ := L7.kin
    have lm : m.length = 19 := by rw [← List.length_map (f := Prod.snd), hm3]; rfl
    obtain ⟨xsp, hxsp⟩ := L7.at
    refine ⟨_, rfl, _, rfl, p, c0, kl, _, rfl, L7.bag, .of hm1, hm4, by rw [List.length_map]; omega, by rw [List.length_map]; omega, fun j v H8 hj B8 S8 => ?_⟩
    rw [List.getElem?_map] at hj
    cases hq : m[j]? with
    | none => rw [hq] at hj; cases hj
    | some q =>
    rw [hq] at hj
    cases hj
    have hqm := List.mem_of_getElem? hq
    have hqt := hm2 q hqm
    have hq8 := S8 _ _ hqt (ne_of hqt hxsp (by intro z; cases z))
    obtain ⟨⟨kd, wd⟩, hkin, hkq⟩ : ∃ z ∈ kindsL, q.2 = (.str z.1, .str z.2) := by
      have : q.2 ∈ kindsV := by rw [← hm3]; exact List.mem_map_of_mem hqm
      obtain ⟨z, h1, h2⟩ := List.mem_map.mp this
      exact ⟨z, h1, h2.symm⟩
    have hkq : q.2 = (V.str kd, V.str wd) := hkq
    rw [hkq] at hq8
    have wok : WordOk kd wd := kinds_ok _ hkin
    refine ⟨q.1, _, rfl, .of hq8, rfl, _, _, rfl, _, _, rfl, rfl, ?_⟩
    have L8 := L7.but S8 B8
    have D8 := D7.but S8 hxsp dp
    clear hq8 hqt hqm hq B8 S8 hxsp L7 D7 hm1 hm2 hm3 hm4 lm
    -- gap
    refine r_set ?_
    refine ⟨_, rfl, by show 5 ≤ sizeLine; omega, fun gl hgl => ?_⟩
    have S9 : Same H8 (upd H8 gl (.lst [V.str (Str.ofString " "), V.str (Str.ofString "  "), V.str (Str.ofString "\n"), V.str (Str.ofString " # so, not (X)\n"), V.str (Str.ofString "\n\n ")])) := (Same.refl H8).new hgl
    have L9 := L8.same S9
    have D9 := D8.same S9
    obtain ⟨xsp, hxsp⟩ := L9.at
    have hglp : gl ≠ p := fun z => by
      obtain ⟨xs, hx⟩ := L8.at
      rw [← z, hgl] at hx
      cases hx
    refine ⟨p, c0, gl, _, rfl, L9.bag, .of upd_same, hglp, by show 0 < 5; decide, by show 5 < 1073741824; decide, fun j v H10 hj B10 S10 => ?_⟩
    have L10 := L9.but S10 B10
    have D10 := D9.but S10 hxsp dp
    obtain ⟨g, hg, rfl⟩ : ∃ g ∈ gapsS, v = .str g := by
      have : v ∈ gapsS.map V.str := List.mem_of_getElem? hj
      obtain ⟨g, h1, h2⟩ := List.mem_map.mp this
      exact ⟨g, h1, h2.symm⟩
    obtain ⟨feeds, rf, g1, g2, g3, g4⟩ := gaps_ok g hg
    obtain ⟨col, ⟨rs', cur', cts', bn, hdn, hrn, hcn⟩, hcol⟩ := g4 b7 wok.1 wok.2.2 wok.2.1
    clear hj S10 B10 hxsp L9 D9 S9 hgl hglp L8 D8
    -- due.append
    refine r_expr ?_
    have hll : l.length = i := by
      have := b7.toks
      rw [← hl7, List.length_map] at this
      exact this
    refine ⟨_, rfl, .inl ⟨rfl, _, .of D10.at_⟩, _, rfl, _, rfl, _, rfl, _, rfl, by show 4 ≤ sizeLine; omega, fun t ht => ?_⟩
    have ndt : d ≠ t := ne_of_none D10.at_ ht
    refine ⟨d, _, _, rfl, rfl, by rw [upd_ne ndt]; exact D10.at_, by rw [List.length_map]; omega, ?_⟩
    have S11 : Same H10 (upd H10 t (.tup [V.str kd, V.str wd, V.int ((rs.length + 1 : Nat) : Int), V.int ((cur.length + 1 : Nat) : Int)])) := (Same.refl H10).new ht
    have L11 := (L10.same S11).wr (ys := l.map (fun q => V.ref q.1) ++ [V.ref t]) (S11 _ _ D10.at_) dp dc dkl
    have D11 : Due (upd (upd H10 t (.tup [V.str kd, V.str wd, V.int ((rs.length + 1 : Nat) : Int), V.int ((cur.length + 1 : Nat) : Int)])) d (.lst (l.map (fun q => V.ref q.1) ++ [V.ref t]))) d (l ++ [(t, (kd, wd, rs.length + 1, cur.length + 1))]) := by
      refine ⟨by rw [upd_same, List.map_append]; rfl, fun q hq => ?_⟩
      rcases List.mem_append.mp hq with h | h
      · have h4 := D10.tok q h
        have n1 : q.1 ≠ d := ne_of h4 D10.at_ (by intro z; cases z)
        show upd _ d _ q.1 = _
        rw [upd_ne n1]
        exact S11 _ _ h4
      · cases List.mem_singleton.mp h
        show upd _ d _ t = _
        rw [upd_ne ndt.symm, upd_same]
    generalize upd (upd H10 t (.tup [V.str kd, V.str wd, V.int ((rs.length + 1 : Nat) : Int), V.int ((cur.length + 1 : Nat) : Int)])) d (.lst (l.map (fun q => V.ref q.1) ++ [V.ref t])) = H11 at L11 D11 ⊢
    clear S11 ndt ht L10 D10
    -- text
    have hxl := b7.len
    have hwl := wok.2.1
    have ewd : wd = mk (tl wd) := (mk_tl' wd).symm
    have eg : g = mk (tl g) := (mk_tl' g).symm
    refine r_set ?_
    refine ⟨_, rfl, _, rfl, _, _, rfl, rfl, by rw [len_mk, len_tl]; omega, _, rfl, _, _, rfl, rfl, by rw [len_tl, tl_append, List.length_append, tl_mk', len_tl]; omega, ?_⟩
    refine r_set ?_
    refine ⟨_, rfl, ⟨_, rfl⟩, _, _, rfl, rfl, ?_⟩
    rw [g1]
    refine r_set ?_
    refine ⟨_, rfl, _, rfl, _, _, rfl, rfl, ?_⟩
    have etext : mk x ++ wd ++ g = mk (x ++ tl wd ++ tl g) := by
      conv => lhs; rw [ewd, eg]
      rw [mk_app, mk_app]
    have hglen : g.length = (tl g).length := len_tl g
    have hwlen : wd.length = (tl wd).length := len_tl wd
    have eline : ((rs'.length + 1 : Nat) : Int) = ((rs.length + 1 : Nat) : Int) + (feeds : Int) := by rw [hrn]; omega
    have hfin : (l ++ [(t, (kd, wd, rs.length + 1, cur.length + 1))]).map (·.2) = dueOf 1 (rs' ++ [(cur', cts')]) := by
      rw [List.map_append, hl7, hdn, ← ewd]
      rfl
    have wfin : ∀ t ∈ dueOf 1 (rs' ++ [(cur', cts')]), WordOk t.1 t.2.1 := fun t' ht' => by
      rw [hdn] at ht'
      rcases List.mem_append.mp ht' with h | h
      · exact w7 t' h
      · cases List.mem_singleton.mp h
        rw [← ewd]
        exact wok
    refine ⟨_, rfl, _, _, rfl, rfl, _, rfl, ?_⟩
    refine ite2 (fun h => ?_) (fun h => ?_)
    · have hf : 0 < feeds := by
        have := of_decide_eq_true h
        omega
      rw [if_pos hf] at hcol
      refine ⟨_, rfl, _, rfl, by rw [hglen]; omega, _, rfl, ⟨_, rfl⟩, _, _, rfl, rfl, _, _, rfl, rfl, ?_⟩
      rw [g2]
      have ho : (g.length : Int) - rf = ((cur'.length + 1 : Nat) : Int) := by rw [hglen, hcol, hcn]
      exact ⟨x ++ tl wd ++ tl g, rs', cur', cts', l ++ [(t, (kd, wd, rs.length + 1, cur.length + 1))], some (.int (0 + (i : Nat))), some (.str kd), some (.str wd), some (.str g), some (.int (feeds : Int)), by rw [← etext, eline, ← ho]; rfl, L11, D11, hfin, bn, wfin⟩
    · have hf : ¬ 0 < feeds := fun z => h (decide_eq_true (by omega))
      rw [if_neg hf] at hcol
      refine ⟨_, rfl, _, rfl, _, rfl, by rw [hwlen]; omega, _, _, rfl, rfl, _, rfl, _, rfl, by rw [hglen]; omega, _, _, rfl, rfl, ?_⟩
      have ho : ((cur.length + 1 : Nat) : Int) + (wd.length : Int) + (g.length : Int) = ((cur'.length + 1 : Nat) : Int) := by
        rw [hglen, hwlen, hcn, ← hcol]
        omega
      exact ⟨x ++ tl wd ++ tl g, rs', cur', cts', l ++ [(t, (kd, wd, rs.length + 1, cur.length + 1))], some (.int (0 + (i : Nat))), some (.str kd), some (.str wd), some (.str g), some (.int (feeds : Int)), by rw [← etext, eline, ← ho]; rfl, L11, D11, hfin, bn, wfin⟩
  · obtain ⟨x, rs, cur, cts, l, o7, o8, o9, o10, o11, rfl, L7, D7, hl7, b7, w7⟩ := hP
    generalize ol : some (V.int ((rs.length + 1 : Nat) : Int)) = o5'
    generalize oc : some (V.int ((cur.length + 1 : Nat) : Int)) = o6'
    have tX := b7.isText
    have hR14 := b7.toks
    have hall := b7.all
    have hRn : (rs ++ [(cur, cts)]).length ≤ 29 := by
      have := b7.rows
      rw [List.length_append]
      show _ + 1 ≤ 29
      omega
    have hlast : lastLen (rs ++ [(cur, cts)]) = cur.length := by unfold lastLen; simp
    have hRpos : 0 < (rs ++ [(cur, cts)]).length := by simp
    have tN := b7.noted
    have hspot := b7.spot
    have hxl := b7.len
    have hmapR : rs.map (·.1) ++ [cur] = (rs ++ [(cur, cts)]).map (·.1) := by simp
    rw [hmapR] at hspot
    have elastR : ((rs ++ [(cur, cts)]).map (·.1)).map mk = (rs.map (·.1)).map mk ++ [mk cur] := by simp
    generalize eR : rs ++ [(cur, cts)] = R at *
    have hcl : cur.length ≤ 336 := (hall (cur, cts) (by rw [← eR]; simp)).2
    clear b7
    -- lines
    refine r_set ?_
    refine ⟨_, rfl, ⟨_, rfl⟩, mk x, _, rfl, rfl, by decide +kernel, by rw [len_mk]; omega, fun lp hlp => ?_⟩
    rw [rows_of tX]
    have S8 : Same H7 (upd H7 lp (.lst (((R.map (·.1)).map mk).map V.str))) := (Same.refl H7).new hlp
    have L8 := L7.same S8
    have D8 := D7.same S8
    have lp8 : upd H7 lp (.lst (((R.map (·.1)).map mk).map V.str)) lp = some (.lst (((R.map (·.1)).map mk).map V.str)) := upd_same
    have lpp : lp ≠ p := fun z => by
      obtain ⟨xs, hx⟩ := L7.at
      rw [← z, hlp] at hx
      cases hx
    generalize upd H7 lp (.lst (((R.map (·.1)).map mk).map V.str)) = H8 at L8 D8 lp8 ⊢
    clear S8 hlp L7 D7
    -- words
    refine r_set ?_
    have hll : l.length = 14 := by rw [← hR14, ← hl7, List.length_map]
    have ewords : (l.map fun q => V.str q.2.2.1) = (wordsOf R).map V.str := by
      have : (l.map fun q => V.str q.2.2.1) = (l.map (·.2)).map fun t => V.str t.2.1 := by rw [List.map_map]; rfl
      rw [this, hl7]
      unfold wordsOf
      rw [List.map_map]
      rfl
    refine ⟨_, rfl, d, rfl, ⟨_, .of D8.at_⟩, fun wp hwp => ?_⟩
    have ndw : d ≠ wp := ne_of_none D8.at_ hwp
    refine lc_list (xs := l.map fun q => V.ref q.1) (fun i H' => H' = upd H8 wp (.lst ((l.take i).map fun q => V.str q.2.2.1))) rfl (fun i H' _ e => ?_) (fun i v H' hv e => ?_) (fun H9 e => ?_)
    · subst e
      exact .of (by rw [upd_ne ndw]; exact D8.at_)
    · subst e
      rw [List.getElem?_map] at hv
      cases hi : l[i]? with
      | none => rw [hi] at hv; cases hv
      | some z =>
        rw [hi] at hv
        cases hv
        have hz4 := D8.tok z (List.mem_of_getElem? hi)
        have nzD : z.1 ≠ wp := ne_of_none hz4 hwp
        refine ⟨z.1, _, rfl, .of (by rw [upd_ne nzD]; exact hz4), rfl, _, _, rfl, _, _, rfl, _, _, rfl, _, _, rfl, rfl, ?_⟩
        refine ⟨rfl, _, rfl, _, upd_same, ?_, ?_⟩
        · rw [List.length_map, List.length_take]
          omega
        · rw [upd_upd, List.take_add_one, hi]
          simp
    rw [List.length_map, List.take_length, ewords] at e
    have S9 : Same H8 H9 := by rw [e]; exact (Same.refl H8).new hwp
    have wp9 : H9 wp = some (.lst ((wordsOf R).map V.str)) := by rw [e, upd_same]
    have L9 := L8.same S9
    have D9 := D8.same S9
    have lp9 := S9 _ _ lp8
    have wpp : wp ≠ p := fun z => by
      obtain ⟨xs, hx⟩ := L8.at
      rw [← z, hwp] at hx
      cases hx
    clear S9 e ndw hwp L8 D8 lp8
    -- other
    have hwn : (wordsOf R).length = 14 := by unfold wordsOf; rw [List.length_map, hR14]
    have hwsum : ((wordsOf R).map (·.length)).sum + (wordsOf R).length ≤ 16777216 := by
      have key : ∀ ys : List Str, (∀ y ∈ ys, y.length ≤ 8) → (ys.map (·.length)).sum ≤ 8 * ys.length := by
        intro ys
        induction ys with
        | nil => intro _; simp
        | cons y ys ih =>
          intro hy
          have h1 := hy y List.mem_cons_self
          have h2 := ih fun z hz => hy z (List.mem_cons_of_mem _ hz)
          simp only [List.map_cons, List.sum_cons, List.length_cons]
          omega
      have := key (wordsOf R) fun y hy => by
        obtain ⟨t, ht, rfl⟩ := List.mem_map.mp hy
        rw [len_tl]
        exact (w7 t ht).2.1
      omega
    refine r_set ?_
    refine ⟨_, rfl, wp, wordsOf R, rfl, .inl (.of wp9), hwsum, ?_⟩
    rw [str_join]
    obtain ⟨tk1, tO, wO⟩ := Bld.otherRow hR14 w7 [] [] (.inl rfl) (fun a => Lex.nil a) (by simp) (by simp)
    rw [List.append_nil] at tO wO
    rw [List.map_nil, List.append_nil] at wO
    obtain ⟨tk2, tA, wA⟩ := Bld.otherRow hR14 w7 [32, 97] [(Str.ofString "name", mk [97], 2)] (.inr ⟨_, .inl rfl⟩) (fun a => Lex.blank (Lex.run (c := 97) (u := []) (r := []) (by decide +kernel) (fun d hd => by cases hd) (by decide +kernel) (Lex.nil _))) (by decide) (by decide)
    have noBad : ∀ {n : Nat} {H : Hp} {E : XK}, BadTo C n H E none := fun c e => by cases e
    -- found
    refine r_set ?_
    refine ⟨_, rfl, x, R, none, rfl, tX, fun _ p1 H10 S10 hp1 ht1 => ?_, noBad⟩
    refine ⟨_, rfl, x, R, none, rfl, tX, fun _ p2 H11 S11 hp2 ht2 => ?_, noBad⟩
    refine ⟨_, rfl, _, rfl, x, _, R, _, none, rfl, tX, tO, fun _ H12 S12 => ?_, noBad⟩
    refine ⟨_, rfl, ?_⟩
    refine ⟨_, rfl, _, _, none, rfl, tO, fun _ p3 H13 S13 hp3 ht3 => ?_, noBad⟩
    have ea : mk (joinW R) ++ Str.ofString " a" = mk (joinW R ++ [32, 97]) := by
      rw [show Str.ofString " a" = mk [32, 97] by decide +kernel, mk_app]
    have hjl : (joinW R).length ≤ 1000000 := tO.len
    refine ⟨_, rfl, _, rfl, _, _, rfl, rfl, by rw [len_mk, show (Str.ofString " a").length = 2 by decide +kernel]; omega, x, joinW R ++ [32, 97], R, _, none, by rw [ea]; rfl, tX, tA, fun _ H14 S14 => ?_, noBad⟩
    refine ⟨_, rfl, x, R, none, rfl, tX, fun _ p4 H15 S15 hp4 ht4 => ?_, noBad⟩
    obtain ⟨xs4, a4, h41, h42, h43⟩ := ht4.last
    refine ⟨1, rfl, p4, xs4, -1, _, rfl, rfl, .of h41, h42, by show 7 ≤ sizeLine; omega, fun fp hfp => ?_⟩
    have eD1 : decide (wordsOf R = wordsOf [(joinW R, tk1)]) = true := decide_eq_true wO.symm
    have eD2 : decide (wordsOf R = wordsOf [(joinW R ++ [32, 97], tk2)]) = false := decide_eq_false fun z => by
      have := congrArg List.length z
      rw [wA, List.length_append] at this
      simp at this
    rw [wO] at ht3
    have S10' := ((((S11.trans S12).trans S13).trans S14).trans S15).new (o := HO.lst [V.ref p1, V.ref p2, V.bl (decide (wordsOf R = wordsOf [(joinW R, tk1)])), V.str (mk (joinW R)), V.ref p3, V.bl (decide (wordsOf R = wordsOf [(joinW R ++ [32, 97], tk2)])), V.ref a4]) hfp
    have q1 : ToksT (upd H15 fp (HO.lst [V.ref p1, V.ref p2, V.bl (decide (wordsOf R = wordsOf [(joinW R, tk1)])), V.str (mk (joinW R)), V.ref p3, V.bl (decide (wordsOf R = wordsOf [(joinW R ++ [32, 97], tk2)])), V.ref a4])) p1 _ := ht1.same S10'
    have q2 := ((((S12.trans S13).trans S14).trans S15).new (o := HO.lst [V.ref p1, V.ref p2, V.bl (decide (wordsOf R = wordsOf [(joinW R, tk1)])), V.str (mk (joinW R)), V.ref p3, V.bl (decide (wordsOf R = wordsOf [(joinW R ++ [32, 97], tk2)])), V.ref a4]) hfp) _ _ ht2
    have q3 := ((S14.trans S15).new (o := HO.lst [V.ref p1, V.ref p2, V.bl (decide (wordsOf R = wordsOf [(joinW R, tk1)])), V.str (mk (joinW R)), V.ref p3, V.bl (decide (wordsOf R = wordsOf [(joinW R ++ [32, 97], tk2)])), V.ref a4]) hfp) _ _ ht3
    have q4 := ((Same.refl H15).new (o := HO.lst [V.ref p1, V.ref p2, V.bl (decide (wordsOf R = wordsOf [(joinW R, tk1)])), V.str (mk (joinW R)), V.ref p3, V.bl (decide (wordsOf R = wordsOf [(joinW R ++ [32, 97], tk2)])), V.ref a4]) hfp) _ _ h43
    have SF := S10.trans S10'
    have L16 := L9.same SF
    have D16 := D9.same SF
    have wp16 := SF _ _ wp9
    have lp16 := SF _ _ lp9
    have fp16 : upd H15 fp (HO.lst [V.ref p1, V.ref p2, V.bl (decide (wordsOf R = wordsOf [(joinW R, tk1)])), V.str (mk (joinW R)), V.ref p3, V.bl (decide (wordsOf R = wordsOf [(joinW R ++ [32, 97], tk2)])), V.ref a4]) fp = some (HO.lst [V.ref p1, V.ref p2, V.bl (decide (wordsOf R = wordsOf [(joinW R, tk1)])), V.str (mk (joinW R)), V.ref p3, V.bl (decide (wordsOf R = wordsOf [(joinW R ++ [32, 97], tk2)])), V.ref a4]) := upd_same
    generalize upd H15 fp (HO.lst [V.ref p1, V.ref p2, V.bl (decide (wordsOf R = wordsOf [(joinW R, tk1)])), V.str (mk (joinW R)), V.ref p3, V.bl (decide (wordsOf R = wordsOf [(joinW R ++ [32, 97], tk2)])), V.ref a4]) = H16 at *
    rw [eD1, eD2] at fp16
    clear SF S10' S10 S11 S12 S13 S14 S15 hfp hp1 hp2 hp3 hp4 ht1 ht2 ht3 ht4 h41 h42 h43 L9 D9 wp9 lp9 eD1 eD2 tO tA wO wA ea
    -- end
    refine r_set ?_
    refine ⟨_, rfl, lp, _, rfl, .inl (.of lp16), ?_⟩
    refine ⟨_, rfl, 1, rfl, lp, _, -1, .str (mk cur), rfl, rfl, .of lp16, by rw [elastR, List.map_append]; exact atI_last _ _, _, rfl, by rw [len_mk]; omega, _, _, rfl, rfl, by show 4 ≤ sizeLine; omega, fun ep hep => ?_⟩
    have S17 := (Same.refl H16).new (o := HO.tup [V.str (Str.ofString "end"), V.str (mk []), V.int ((List.map V.str (List.map mk (List.map (fun x => x.fst) R))).length : Nat), (fun i j => V.int (i + j)) (((mk cur).length : Nat) : Int) 1]) hep
    have hEnd : T4 (upd H16 ep (HO.tup [V.str (Str.ofString "end"), V.str (mk []), V.int ((List.map V.str (List.map mk (List.map (fun x => x.fst) R))).length : Nat), (fun i j => V.int (i + j)) (((mk cur).length : Nat) : Int) 1])) ep (endOf R) := by
      show upd H16 ep _ ep = _
      rw [upd_same]
      unfold endOf
      rw [hlast, len_mk, List.length_map, List.length_map, List.length_map, nE]
      rfl
    have L17 := L16.same S17
    have D17 := D16.same S17
    have wp17 := S17 _ _ wp16
    have lp17 := S17 _ _ lp16
    have fp17 := S17 _ _ fp16
    have r1 := q1.same S17
    have r2 := S17 _ _ q2
    have r3 := S17 _ _ q3
    have r4 := S17 _ _ q4
    generalize upd H16 ep (HO.tup [V.str (Str.ofString "end"), V.str (mk []), V.int ((List.map V.str (List.map mk (List.map (fun x => x.fst) R))).length : Nat), (fun i j => V.int (i + j)) (((mk cur).length : Nat) : Int) 1]) = H17 at *
    clear S17 hep q1 q2 q3 q4 L16 D16 wp16 lp16 fp16
    -- alike: the first
    refine r_ifN ?_
    refine ⟨_, rfl, _, rfl, _, rfl, by show 1 ≤ sizeLine; omega, fun e1 he1 => ?_⟩
    have de1 : d ≠ e1 := ne_of_none D17.at_ he1
    refine ⟨d, e1, _, _, rfl, rfl, by rw [upd_ne de1]; exact D17.at_, upd_same, by rw [List.length_map]; show l.length + 1 ≤ sizeLine; omega, fun g1 hg1 => ⟨g1, _, rfl, .inl ⟨.of upd_same, fun t1 ht1 => ?_⟩⟩⟩
    have T1 := (((Same.refl H17).new (o := HO.lst [V.ref ep]) he1).new (o := HO.lst (l.map (fun q => V.ref q.1) ++ [V.ref ep])) hg1).new (o := HO.tup (l.map (fun q => V.ref q.1) ++ [V.ref ep])) ht1
    have t1a := upd_same (H := upd (upd H17 e1 (HO.lst [V.ref ep])) g1 (HO.lst (l.map (fun q => V.ref q.1) ++ [V.ref ep]))) (a := t1) (o := HO.tup (l.map (fun q => V.ref q.1) ++ [V.ref ep]))
    generalize upd (upd (upd H17 e1 (HO.lst [V.ref ep])) g1 (HO.lst (l.map (fun q => V.ref q.1) ++ [V.ref ep]))) t1 (HO.tup (l.map (fun q => V.ref q.1) ++ [V.ref ep])) = G1 at T1 t1a ⊢
    clear hg1 ht1
    refine ⟨_, rfl, wp, _, rfl, .inl ⟨.of (T1 _ _ wp17), fun t2 ht2 => ?_⟩⟩
    have T2 := (Same.refl G1).new (o := HO.tup ((wordsOf R).map V.str)) ht2
    have t2a := upd_same (H := G1) (a := t2) (o := HO.tup ((wordsOf R).map V.str))
    generalize upd G1 t2 (HO.tup ((wordsOf R).map V.str)) = G2 at T2 t2a ⊢
    clear ht2
    refine ⟨⟨_, rfl⟩, _, rfl, _, wp, wordsOf R, rfl, rfl, .inl (.of (T2 _ _ (T1 _ _ wp17))), by rw [show (Str.ofString " ").length = 1 by decide +kernel]; omega, ?_⟩
    rw [n32, join_eq, str_join]
    refine ⟨_, rfl, wp, _, rfl, .inl ⟨.of (T2 _ _ (T1 _ _ wp17)), fun t3 ht3 => ?_⟩⟩
    have T3 := (Same.refl G2).new (o := HO.tup ((wordsOf R).map V.str)) ht3
    have t3a := upd_same (H := G2) (a := t3) (o := HO.tup ((wordsOf R).map V.str))
    generalize upd G2 t3 (HO.tup ((wordsOf R).map V.str)) = G3 at T3 t3a ⊢
    clear ht3
    refine ⟨_, rfl, by show 7 ≤ sizeLine; omega, fun dl hdl => ?_⟩
    have T4' := (Same.refl G3).new (o := HO.lst [V.ref t1, V.ref t2, V.bl true, V.str (mk (joinW R)), V.ref t3, V.bl false, V.ref ep]) hdl
    have dla := upd_same (H := G3) (a := dl) (o := HO.lst [V.ref t1, V.ref t2, V.bl true, V.str (mk (joinW R)), V.ref t3, V.bl false, V.ref ep])
    generalize upd G3 dl (HO.lst [V.ref t1, V.ref t2, V.bl true, V.str (mk (joinW R)), V.ref t3, V.bl false, V.ref ep]) = G4 at T4' dla ⊢
    clear hdl
    have TG := ((T1.trans T2).trans T3).trans T4'
    have dueD : DpAll K H17 (l.map (fun q => V.ref q.1) ++ [V.ref ep]) ((dueOf 1 R ++ [endOf R]).map tokD) := by
      rw [List.map_append, ← hl7]
      exact DpAll.app (dp_toks D17.tok) (.cons (dp_tok hEnd) .nil)
    refine ⟨_, _, .list [.tuple ((dueOf 1 R ++ [endOf R]).map tokD), .tuple ((wordsOf R).map PyData.str), .bool true, .str (mk (joinW R)), .tuple ((wordsOf R).map PyData.str), .bool false, tokD (endOf R)], rfl, ?_, ?_, ?_, fun H18 S18 => ⟨true, rfl, iteF ?_⟩⟩
    · exact Dp.same TG (.lst (.of fp17) (.cons (dp_toksT r1) (.cons (dp_strs r2) (.cons (.bl _) (.cons (.str _) (.cons (dp_strs r3) (.cons (.bl _) (.cons (dp_tok r4) .nil))))))))
    · exact .lst (.of dla) (.cons (.tup (.of (T4' _ _ (T3 _ _ (T2 _ _ t1a)))) (DpAll.same TG dueD)) (.cons (dp_strs (T4' _ _ (T3 _ _ t2a))) (.cons (.bl _) (.cons (.str _) (.cons (dp_strs (T4' _ _ t3a)) (.cons (.bl _) (.cons (Dp.same TG (dp_tok hEnd)) .nil)))))))
    · simp only [szD, szL, sz_toks, sz_strs, List.length_append, hR14, hwn, tokD, List.length_cons, List.length_nil]
      omega
    have S18' := TG.trans S18
    have L18 := L17.same S18'
    have D18 := D17.same S18'
    have wp18 := S18' _ _ wp17
    have lp18 := S18' _ _ lp17
    clear S18' S18 TG T4' T3 T2 T1 t1a t2a t3a dla dueD r1 r2 r3 r4 fp17 L17 D17 wp17 lp17 hEnd he1 de1
    -- at
    refine r_set ?_
    obtain ⟨xsp, hxsp⟩ := L18.at
    refine ⟨_, rfl, _, rfl, d, _, rfl, .inl (.of D18.at_), p, c0, _, rfl, L18.bag, by rw [List.length_map]; omega, by rw [List.length_map]; omega, fun v H19 hv0 hv1 B19 S19 => ?_⟩
    rw [List.length_map] at hv1
    have L19 := L18.but S19 B19
    have D19 := D18.but S19 hxsp dp
    have wp19 := S19 _ _ wp18 wpp
    have lp19 := S19 _ _ lp18 lpp
    obtain ⟨at', rfl⟩ := Int.eq_ofNat_of_zero_le hv0
    have hat : at' < l.length := by omega
    have hqa : l[at']? = some l[at'] := by simp [hat]
    generalize l[at'] = tk at hqa
    have htk := D19.tok tk (List.mem_of_getElem? hqa)
    have htkm : tk.2 ∈ dueOf 1 R := by rw [← hl7]; exact List.mem_map_of_mem (List.mem_of_getElem? hqa)
    obtain ⟨i, pre, post, pts, hs1, hs2, hs3, hs4⟩ := hspot tk.2 htkm
    clear S19 B19 hxsp L18 D18 wp18 lp18
    refine r_asg ?_
    refine ⟨_, rfl, _, rfl, d, _, _, _, rfl, rfl, .of D19.at_, atI_nat (j := at') (by rw [List.getElem?_map, hqa]; rfl), tk.1, _, rfl, .of htk, rfl, _, _, rfl, _, _, rfl, _, _, rfl, _, _, rfl, rfl, ?_⟩
    rw [hs1, hs3]
    have hiR : i < R.length := by
      rcases Nat.lt_or_ge i R.length with z | z
      · exact z
      · rw [List.getElem?_eq_none (by rw [List.length_map]; exact z)] at hs2
        cases hs2
    have hprow : (pre ++ post).length ≤ 336 := by
      obtain ⟨q0, hq0, e0⟩ := List.mem_map.mp (List.mem_of_getElem? hs2)
      rw [← e0]
      exact (hall q0 hq0).2
    have hplen : pre.length ≤ 336 := by rw [List.length_append] at hprow; omega
    -- each spoilt word
    refine r_for ?_
    refine ⟨by show 13 ≤ sizeLine; omega, fun bt hbt => ⟨bt, rfl, ⟨_, .of upd_same⟩, ?_⟩⟩
    have S20 := (Same.refl H19).new (o := HO.tup (badsS.map V.str)) hbt
    have bt20 := upd_same (H := H19) (a := bt) (o := HO.tup (badsS.map V.str))
    have L20 := L19.same S20
    have D20 := D19.same S20
    have wp20 := S20 _ _ wp19
    have lp20 := S20 _ _ lp19
    refine for_tup (xs := badsS.map V.str) (fun j σ H' => ∃ o17 o20 o21 o22 o25 : Option V,
      σ = [some (.ref a), some (.ref p), some (.ref kl), some (.int (0 + (turn : Nat))), some (.ref d), o5', o6', o7, some (.str tk.2.1), some (.str tk.2.2.1), o10, o11, some (.ref lp), some (.int ((i + 1 : Nat) : Int)), some (.int (at' : Int)), some (.ref wp), some (.str (mk (joinW R))), o17, some (.ref ep), some (.int ((pre.length + 1 : Nat) : Int)), o20, o21, o22, o23, o24, o25, some (.str (mk x)), o27] ∧
      LH H' p c0 kl PT ∧ Due H' d l ∧ H' wp = some (.lst ((wordsOf R).map V.str)) ∧ H' lp = some (.lst (((R.map (·.1)).map mk).map V.str)) ∧ H' bt = some (.tup (badsS.map V.str)))
      ⟨_, _, _, _, _, rfl, L20, D20, wp20, lp20, bt20⟩ (fun j σ H' _ h => by obtain ⟨_, _, _, _, _, _, _, _, _, _, h⟩ := h; exact .of h) (fun j v σ H21 hv hP => ?_) (fun σ H21 hP => ?_)
    · obtain ⟨o17, o20, o21, o22, o25, rfl, L21, D21, wp21, lp21, bt21⟩ := hP
      obtain ⟨b, hb, rfl⟩ : ∃ b ∈ badsS, v = .str b := by
        obtain ⟨b, h1, h2⟩ := List.mem_map.mp (List.mem_of_getElem? hv)
        exact ⟨b, h1, h2.symm⟩
      obtain ⟨bw1, bw2, bw3⟩ := bads_ok b hb
      have ebw : b = mk (tl b) := (mk_tl' b).symm
      have hbl : b.length ≤ 9 := by rw [len_tl]; exact bw2
      have ei1 : ((i + 1 : Nat) : Int) - 1 = (i : Int) := by omega
      have ep1 : ((pre.length + 1 : Nat) : Int) - 1 = (pre.length : Int) := by omega
      have hrl : (mk (pre ++ post)).length ≤ sizeLine := by rw [len_mk]; omega
      refine r_set ?_
      refine ⟨_, rfl, _, rfl, _, _, rfl, rfl, lp, _, _, .str (mk (pre ++ post)), rfl, rfl, .of lp21, ?_, ?_⟩
      · rw [ei1]
        refine atI_nat ?_
        rw [List.getElem?_map, List.getElem?_map, hs2]
        rfl
      -- some
      refine r_set ?_
      refine ⟨⟨_, rfl⟩, _, rfl, _, rfl, _, _, rfl, rfl, _, rfl, lp, _, rfl, .of lp21, fun s1 hs1' => ?_⟩
      rw [ei1]
      have eA : cutV (((R.map (·.1)).map mk).map V.str) none (some (i : Int)) = (((R.map (·.1)).take i).map mk).map V.str := by
        rw [cutV_take _ (by rw [List.length_map, List.length_map, List.length_map]; omega), List.map_take, List.map_take]
      have eB : cutV (((R.map (·.1)).map mk).map V.str) (some ((i + 1 : Nat) : Int)) none = (((R.map (·.1)).drop (i + 1)).map mk).map V.str := by
        rw [cutV_drop _ (by rw [List.length_map, List.length_map, List.length_map]; omega), List.map_drop, List.map_drop]
      rw [eA]
      have U1 := (Same.refl H21).new (o := HO.lst ((((R.map (·.1)).take i).map mk).map V.str)) hs1'
      have s1a := upd_same (H := H21) (a := s1) (o := HO.lst ((((R.map (·.1)).take i).map mk).map V.str))
      generalize upd H21 s1 (HO.lst ((((R.map (·.1)).take i).map mk).map V.str)) = H22 at U1 s1a ⊢
      refine ⟨_, rfl, _, rfl, _, _, rfl, rfl, _, rfl, _, rfl, hrl, _, rfl, _, _, rfl, rfl, ?_, ?_⟩
      · rw [ep1, cutS_to, len_mk, List.length_take]
        omega
      refine ⟨_, _, rfl, rfl, ?_, ?_⟩
      · rw [ep1, cutS_to, ebw, mk_app, len_mk, len_mk, List.length_append, List.length_take]
        simp only [List.length_cons, List.length_nil]
        omega
      refine ⟨_, rfl, _, rfl, _, _, rfl, rfl, _, rfl, _, rfl, hrl, _, _, rfl, rfl, ?_, ?_⟩
      · rw [ep1, cutS_to, cutS_from, ebw, mk_app, mk_app, len_mk, len_mk, List.length_append, List.length_append, List.length_take, List.length_drop]
        simp only [List.length_cons, List.length_nil]
        omega
      have eS : cutS (mk (pre ++ post)) none (some (((pre.length + 1 : Nat) : Int) - 1)) ++ b ++ mk [32] ++ cutS (mk (pre ++ post)) (some (((pre.length + 1 : Nat) : Int) - 1)) none = mk (pre ++ tl b ++ [32] ++ post) := by
        rw [ep1, cutS_to, cutS_from]
        conv => lhs; rw [ebw]
        rw [mk_app, mk_app, mk_app, List.take_left, List.drop_left]
      refine ⟨by show 1 ≤ sizeLine; omega, fun b1 hb1 => ?_⟩
      have U2 := (Same.refl H22).new (o := HO.lst [V.str (cutS (mk (pre ++ post)) none (some (((pre.length + 1 : Nat) : Int) - 1)) ++ b ++ mk [32] ++ cutS (mk (pre ++ post)) (some (((pre.length + 1 : Nat) : Int) - 1)) none)]) hb1
      have b1a := upd_same (H := H22) (a := b1) (o := HO.lst [V.str (cutS (mk (pre ++ post)) none (some (((pre.length + 1 : Nat) : Int) - 1)) ++ b ++ mk [32] ++ cutS (mk (pre ++ post)) (some (((pre.length + 1 : Nat) : Int) - 1)) none)])
      refine ⟨s1, b1, _, _, rfl, rfl, U2 _ _ s1a, b1a, ?_, fun c1 hc1 => ?_⟩
      · rw [List.length_map, List.length_map, List.length_take, List.length_map]
        show _ + 1 ≤ sizeLine
        omega
      have U3 := ((Same.refl H22).new (o := HO.lst [V.str (cutS (mk (pre ++ post)) none (some (((pre.length + 1 : Nat) : Int) - 1)) ++ b ++ mk [32] ++ cutS (mk (pre ++ post)) (some (((pre.length + 1 : Nat) : Int) - 1)) none)]) hb1).new (o := HO.lst ((((R.map (·.1)).take i).map mk).map V.str ++ [V.str (cutS (mk (pre ++ post)) none (some (((pre.length + 1 : Nat) : Int) - 1)) ++ b ++ mk [32] ++ cutS (mk (pre ++ post)) (some (((pre.length + 1 : Nat) : Int) - 1)) none)])) hc1
      refine ⟨_, rfl, _, rfl, _, rfl, lp, _, rfl, .of (U3 _ _ (U1 _ _ lp21)), fun s2 hs2' => ?_⟩
      have c1a := upd_same (H := upd H22 b1 (HO.lst [V.str (cutS (mk (pre ++ post)) none (some (((pre.length + 1 : Nat) : Int) - 1)) ++ b ++ mk [32] ++ cutS (mk (pre ++ post)) (some (((pre.length + 1 : Nat) : Int) - 1)) none)])) (a := c1) (o := HO.lst ((((R.map (·.1)).take i).map mk).map V.str ++ [V.str (cutS (mk (pre ++ post)) none (some (((pre.length + 1 : Nat) : Int) - 1)) ++ b ++ mk [32] ++ cutS (mk (pre ++ post)) (some (((pre.length + 1 : Nat) : Int) - 1)) none)]))
      generalize upd (upd H22 b1 (HO.lst [V.str (cutS (mk (pre ++ post)) none (some (((pre.length + 1 : Nat) : Int) - 1)) ++ b ++ mk [32] ++ cutS (mk (pre ++ post)) (some (((pre.length + 1 : Nat) : Int) - 1)) none)])) c1 (HO.lst ((((R.map (·.1)).take i).map mk).map V.str ++ [V.str (cutS (mk (pre ++ post)) none (some (((pre.length + 1 : Nat) : Int) - 1)) ++ b ++ mk [32] ++ cutS (mk (pre ++ post)) (some (((pre.length + 1 : Nat) : Int) - 1)) none)])) = H23 at U3 c1a hs2' ⊢
      rw [eB]
      have s2a := upd_same (H := H23) (a := s2) (o := HO.lst ((((R.map (·.1)).drop (i + 1)).map mk).map V.str))
      have U4 := (Same.refl H23).new (o := HO.lst ((((R.map (·.1)).drop (i + 1)).map mk).map V.str)) hs2'
      refine ⟨c1, s2, _, _, rfl, rfl, U4 _ _ c1a, s2a, ?_, fun j1 hj1 => ?_⟩
      · rw [List.length_append, List.length_map, List.length_map, List.length_map, List.length_map, List.length_take, List.length_drop, List.length_map]
        show _ + 1 + _ ≤ sizeLine
        omega
      rw [eS]
      have eJ : (((List.map (fun q : Row => q.1) R).take i).map mk).map V.str ++ [V.str (mk (pre ++ tl b ++ [32] ++ post))] ++ (((List.map (fun q : Row => q.1) R).drop (i + 1)).map mk).map V.str = (((List.map (fun q : Row => q.1) R).take i ++ [pre ++ tl b ++ [32] ++ post] ++ (List.map (fun q : Row => q.1) R).drop (i + 1)).map mk).map V.str := by simp
      have U5 := ((U1.trans U3).trans U4).new (o := HO.lst ((((List.map (fun q : Row => q.1) R).take i).map mk).map V.str ++ [V.str (mk (pre ++ tl b ++ [32] ++ post))] ++ (((List.map (fun q : Row => q.1) R).drop (i + 1)).map mk).map V.str)) hj1
      obtain ⟨tS, hil, hS400, hS30⟩ := spoilt (x := joinL [10] ((List.map (fun q : Row => q.1) R).take i ++ [pre ++ tl b ++ [32] ++ post] ++ (List.map (fun q : Row => q.1) R).drop (i + 1))) (off := offOf b) (fun q hq => ⟨(hall q hq).1, (hall q hq).2⟩) hRn hs2 hs4 bw1 bw2 bw3 rfl
      refine ⟨_, j1, (((List.map (fun q : Row => q.1) R).take i ++ [pre ++ tl b ++ [32] ++ post] ++ (List.map (fun q : Row => q.1) R).drop (i + 1)).map mk), rfl, rfl, .inl (.of (by rw [upd_same, eJ])), ?_, ?_⟩
      · have h1 := sum_len (m := 400) ((List.map (fun q : Row => q.1) R).take i ++ [pre ++ tl b ++ [32] ++ post] ++ (List.map (fun q : Row => q.1) R).drop (i + 1) |>.map mk) fun y hy => by
          obtain ⟨z, hz, rfl⟩ := List.mem_map.mp hy
          rw [len_mk]
          exact hS400 z hz
        rw [List.length_map] at h1 ⊢
        rw [show (Str.ofString "\n").length = 1 by decide +kernel]
        omega
      rw [join_nlS]
      have L24 := L21.same U5
      have D24 := D21.same U5
      have wp24 := U5 _ _ wp21
      have lp24 := U5 _ _ lp21
      have bt24 := U5 _ _ bt21
      generalize upd (upd H23 s2 (HO.lst ((((List.map (fun q : Row => q.1) R).drop (i + 1)).map mk).map V.str))) j1 (HO.lst ((((List.map (fun q : Row => q.1) R).take i).map mk).map V.str ++ [V.str (mk (pre ++ tl b ++ [32] ++ post))] ++ (((List.map (fun q : Row => q.1) R).drop (i + 1)).map mk).map V.str)) = H24 at L24 D24 wp24 lp24 bt24 ⊢
      generalize joinL [10] ((List.map (fun q : Row => q.1) R).take i ++ [pre ++ tl b ++ [32] ++ post] ++ (List.map (fun q : Row => q.1) R).drop (i + 1)) = y at tS ⊢
      clear hS400 hS30 U5 U4 U3 U2 U1 s1a b1a c1a s2a hj1 hs2' hc1 hb1 hs1' eJ eS eA eB L21 D21 wp21 lp21 bt21
      -- off
      refine cutR (t := tAsg _ (gName 22)) (fun σ' H' => H' = H24 ∧ ∃ o17 o20 o21 : Option V, σ' = [some (.ref a), some (.ref p), some (.ref kl), some (.int (0 + (turn : Nat))), some (.ref d), o5', o6', o7, some (.str tk.2.1), some (.str tk.2.2.1), o10, o11, some (.ref lp), some (.int ((i + 1 : Nat) : Int)), some (.int (at' : Int)), some (.ref wp), some (.str (mk (joinW R))), o17, some (.ref ep), some (.int ((pre.length + 1 : Nat) : Int)), o20, o21, some (.int ((offOf b : Nat) : Int)), o23, o24, some (.str (mk y)), some (.str (mk x)), o27]) ?_ ?_
      rotate_left
      · intro N hN
        refine ⟨_, rfl, rfl, _, rfl, ?_⟩
        have eo : offOf b = if decide (V.str b = V.str (Str.ofString "a_b")) = true then 1 else 0 := rfl
        refine ite2 (fun h1 => ?_) (fun h1 => ?_)
        · rw [if_pos h1] at eo
          exact hN _ _ ⟨rfl, _, _, _, by rw [eo]; rfl⟩
        · rw [if_neg h1] at eo
          exact hN _ _ ⟨rfl, _, _, _, by rw [eo]; rfl⟩
      rintro σ' H25 ⟨rfl, q17, q20, q21, rfl⟩
      have eplace : ((pre.length + offOf b + 1 : Nat) : Int) = ((pre.length + 1 : Nat) : Int) + ((offOf b : Nat) : Int) := by omega
      -- found
      refine r_set ?_
      refine ⟨L24.tabs, fun H26 e26 t26 => ?_⟩
      refine ⟨_, rfl, y, R.take i, some (pre.length + offOf b + 1), rfl, tS, (fun e => by cases e), fun c' ec dd H27 S27 hdd hx27 => ?_⟩
      cases ec
      refine ⟨rfl, dd, _, _, _, rfl, hx27, xd_line, xd_col, fun w1 hw1 => ?_⟩
      have eil : (((R.take i).length + 1 : Nat) : Int) = ((i + 1 : Nat) : Int) := by rw [hil]
      rw [eil, eplace]
      have X1 : ExtN H25 (upd H27 w1 (HO.tup [V.str (Str.ofString "text"), V.int ((i + 1 : Nat) : Int), V.int (((pre.length + 1 : Nat) : Int) + ((offOf b : Nat) : Int))])) := ext_new (ext_same e26 S27) hw1
      have t28 : TabS (upd H27 w1 (HO.tup [V.str (Str.ofString "text"), V.int ((i + 1 : Nat) : Int), V.int (((pre.length + 1 : Nat) : Int) + ((offOf b : Nat) : Int))])) PT lamQ := ((t26 _ (List.mem_singleton.mpr rfl)).ext S27).ext ((Same.refl H27).new hw1)
      have w1a := upd_same (H := H27) (a := w1) (o := HO.tup [V.str (Str.ofString "text"), V.int ((i + 1 : Nat) : Int), V.int (((pre.length + 1 : Nat) : Int) + ((offOf b : Nat) : Int))])
      generalize upd H27 w1 (HO.tup [V.str (Str.ofString "text"), V.int ((i + 1 : Nat) : Int), V.int (((pre.length + 1 : Nat) : Int) + ((offOf b : Nat) : Int))]) = W1 at X1 t28 w1a ⊢
      clear hw1 hx27 hdd S27 t26 e26
      refine ⟨by show 1 ≤ sizeLine; omega, fun f1 hf1 => ?_⟩
      have X2 := ext_new (o := HO.lst [V.ref w1]) (ExtN.refl W1) hf1
      have t29 : TabS (upd W1 f1 (HO.lst [V.ref w1])) PT lamQ := t28.ext ((Same.refl W1).new hf1)
      have f1a := upd_same (H := W1) (a := f1) (o := HO.lst [V.ref w1])
      generalize upd W1 f1 (HO.lst [V.ref w1]) = W2 at X2 t29 f1a ⊢
      refine r_expr ?_
      refine ⟨_, rfl, .inl ⟨rfl, _, .of f1a⟩, (fun q hq => by cases List.mem_singleton.mp hq; exact t29), fun H29 e29 t30 => ?_⟩
      refine ⟨_, rfl, y, R.take i, some (pre.length + offOf b + 1), rfl, tS, (fun e => by cases e), fun c' ec dd H30 S30 hdd hx30 => ?_⟩
      cases ec
      refine ⟨rfl, dd, _, _, _, rfl, hx30, xd_line, xd_col, fun w2 hw2 => ?_⟩
      rw [eil, eplace]
      have X3 : ExtN W2 (upd H30 w2 (HO.tup [V.str (Str.ofString "text"), V.int ((i + 1 : Nat) : Int), V.int (((pre.length + 1 : Nat) : Int) + ((offOf b : Nat) : Int))])) := ext_new (ext_same e29 S30) hw2
      have t31 : TabS (upd H30 w2 (HO.tup [V.str (Str.ofString "text"), V.int ((i + 1 : Nat) : Int), V.int (((pre.length + 1 : Nat) : Int) + ((offOf b : Nat) : Int))])) PT lamQ := ((t30 _ (List.mem_singleton.mpr rfl)).ext S30).ext ((Same.refl H30).new hw2)
      have w2a := upd_same (H := H30) (a := w2) (o := HO.tup [V.str (Str.ofString "text"), V.int ((i + 1 : Nat) : Int), V.int (((pre.length + 1 : Nat) : Int) + ((offOf b : Nat) : Int))])
      generalize upd H30 w2 (HO.tup [V.str (Str.ofString "text"), V.int ((i + 1 : Nat) : Int), V.int (((pre.length + 1 : Nat) : Int) + ((offOf b : Nat) : Int))]) = W3 at X3 t31 w2a ⊢
      clear hw2 hx30 hdd S30 t30 e29
      have f1b := ext_lst X3 f1a
      refine ⟨f1, _, _, rfl, rfl, f1b, by show 1 < sizeLine; omega, ?_⟩
      have X4 : ExtN W1 (upd W3 f1 (HO.lst ([V.ref w1] ++ [V.ref w2]))) := ext_own (X2.trans X3) hf1
      have t32 : TabS (upd W3 f1 (HO.lst ([V.ref w1] ++ [V.ref w2]))) PT lamQ := Lore.TabS.wr t31 f1b
      have f1c := upd_same (H := W3) (a := f1) (o := HO.lst ([V.ref w1] ++ [V.ref w2]))
      have w2b : upd W3 f1 (HO.lst ([V.ref w1] ++ [V.ref w2])) w2 = some (HO.tup [V.str (Str.ofString "text"), V.int ((i + 1 : Nat) : Int), V.int (((pre.length + 1 : Nat) : Int) + ((offOf b : Nat) : Int))]) := by rw [upd_ne (ne_of w2a f1b (by intro z; cases z))]; exact w2a
      generalize upd W3 f1 (HO.lst ([V.ref w1] ++ [V.ref w2])) = W4 at X4 t32 f1c w2b ⊢
      have w1b := ext_tup X4 w1a
      have X5 := X1.trans X4
      have L32 := L24.ext X5 (fun q hq => by cases List.mem_singleton.mp hq; exact t32)
      have D32 := D24.ext X5
      have wp32 := ext_lst X5 wp24
      have lp32 := ext_lst X5 lp24
      have bt32 := ext_tup X5 bt24
      clear X5 X4 t31 f1b w2a X3 f1a t29 X2 hf1 w1a t28 X1 L24 D24 wp24 lp24 bt24
      have dTX : ∀ {H : Hp} {u : Addr}, H u = some (HO.tup [V.str (Str.ofString "text"), V.int ((i + 1 : Nat) : Int), V.int (((pre.length + 1 : Nat) : Int) + ((offOf b : Nat) : Int))]) → Dp K H (.ref u) (.tuple [.str (Str.ofString "text"), .int ((i + 1 : Nat) : Int), .int (((pre.length + 1 : Nat) : Int) + ((offOf b : Nat) : Int))]) := fun h => .tup (.of h) (.cons (.str _) (.cons (.int _) (.cons (.int _) .nil)))
      refine r_ifN ?_
      refine ⟨_, rfl, _, rfl, _, rfl, _, rfl, _, _, rfl, rfl, by show 3 ≤ sizeLine; omega, fun u1 hu1 => ⟨by show 1 ≤ sizeLine; omega, fun u2 hu2 => ?_⟩⟩
      have n12 : u1 ≠ u2 := ne_of_none upd_same hu2
      refine ⟨u2, 2, _, rfl, rfl, upd_same, by decide, by decide, by show 1 * 2 ≤ sizeLine; omega, fun u3 hu3 => ?_⟩
      have n13 : u1 ≠ u3 := ne_of_none (by rw [upd_ne n12, upd_same]) hu3
      have Z1 := (((Same.refl W4).new hu1).new hu2).new (o := HO.lst (List.replicate (2 : Int).toNat [V.ref u1]).flatten) hu3
      have u1a : upd (upd (upd W4 u1 (HO.tup [V.str (Str.ofString "text"), V.int ((i + 1 : Nat) : Int), V.int (((pre.length + 1 : Nat) : Int) + ((offOf b : Nat) : Int))])) u2 (HO.lst [V.ref u1])) u3 (HO.lst (List.replicate (2 : Int).toNat [V.ref u1]).flatten) u1 = some (HO.tup [V.str (Str.ofString "text"), V.int ((i + 1 : Nat) : Int), V.int (((pre.length + 1 : Nat) : Int) + ((offOf b : Nat) : Int))]) := by
        rw [upd_ne n13, upd_ne n12, upd_same]
      refine ⟨_, _, .list [.tuple [.str (Str.ofString "text"), .int ((i + 1 : Nat) : Int), .int (((pre.length + 1 : Nat) : Int) + ((offOf b : Nat) : Int))], .tuple [.str (Str.ofString "text"), .int ((i + 1 : Nat) : Int), .int (((pre.length + 1 : Nat) : Int) + ((offOf b : Nat) : Int))]], rfl, ?_, ?_, by simp only [szD, szL]; omega, fun W6 Z2 => ⟨true, rfl, iteF ?_⟩⟩
      · exact Dp.same Z1 (.lst (.of f1c) (.cons (dTX w1b) (.cons (dTX w2b) .nil)))
      · exact .lst (.of upd_same) (.cons (dTX u1a) (.cons (dTX u1a) .nil))
      have Z3 := Z1.trans Z2
      have L33 := L32.same Z3
      have D33 := D32.same Z3
      have wp33 := Z3 _ _ wp32
      have lp33 := Z3 _ _ lp32
      have bt33 := Z3 _ _ bt32
      clear Z3 Z2 Z1 u1a n12 n13 hu1 hu2 hu3 f1c w1b w2b L32 D32 wp32 lp32 bt32
      refine r_ifN1 ?_
      refine ⟨L33.tabs, fun H34 e34 t34 => ?_⟩
      refine ⟨_, rfl, _, rfl, x, y, R, R.take i, some (pre.length + offOf b + 1), rfl, tX, tS, (fun e => by cases e), fun c' ec dd H35 S35 hdd hx35 => ?_⟩
      cases ec
      refine ⟨rfl, dd, _, _, _, rfl, hx35, xd_line, xd_col, fun w3 hw3 => ?_⟩
      rw [eil, eplace]
      have X6 : ExtN W6 (upd H35 w3 (HO.tup [V.str (Str.ofString "text"), V.int ((i + 1 : Nat) : Int), V.int (((pre.length + 1 : Nat) : Int) + ((offOf b : Nat) : Int))])) := ext_new (ext_same e34 S35) hw3
      have t36 : TabS (upd H35 w3 (HO.tup [V.str (Str.ofString "text"), V.int ((i + 1 : Nat) : Int), V.int (((pre.length + 1 : Nat) : Int) + ((offOf b : Nat) : Int))])) PT lamQ := ((t34 _ (List.mem_singleton.mpr rfl)).ext S35).ext ((Same.refl H35).new hw3)
      have w3a := upd_same (H := H35) (a := w3) (o := HO.tup [V.str (Str.ofString "text"), V.int ((i + 1 : Nat) : Int), V.int (((pre.length + 1 : Nat) : Int) + ((offOf b : Nat) : Int))])
      generalize upd H35 w3 (HO.tup [V.str (Str.ofString "text"), V.int ((i + 1 : Nat) : Int), V.int (((pre.length + 1 : Nat) : Int) + ((offOf b : Nat) : Int))]) = W7 at X6 t36 w3a ⊢
      clear hw3 hx35 hdd S35 t34 e34
      refine ⟨_, rfl, _, rfl, _, rfl, _, _, rfl, rfl, by show 3 ≤ sizeLine; omega, fun u4 hu4 => ?_⟩
      have Z4 := (Same.refl W7).new (o := HO.tup [V.str (Str.ofString "text"), V.int ((i + 1 : Nat) : Int), V.int (((pre.length + 1 : Nat) : Int) + ((offOf b : Nat) : Int))]) hu4
      refine ⟨_, _, .tuple [.str (Str.ofString "text"), .int ((i + 1 : Nat) : Int), .int (((pre.length + 1 : Nat) : Int) + ((offOf b : Nat) : Int))], rfl, Dp.same Z4 (dTX w3a), dTX upd_same, by simp only [szD, szL]; omega, fun W8 Z5 => ⟨true, rfl, iteF ?_⟩⟩
      have Z6 := Z4.trans Z5
      exact ⟨_, _, _, _, _, rfl, (L33.ext X6 (fun q hq => by cases List.mem_singleton.mp hq; exact t36)).same Z6, (D33.ext X6).same Z6, Z6 _ _ (ext_lst X6 wp33), Z6 _ _ (ext_lst X6 lp33), Z6 _ _ (ext_tup X6 bt33)⟩
    · obtain ⟨o17, o20, o21, o22, o25, rfl, L21, D21, wp21, lp21, bt21⟩ := hP
      clear L20 D20 wp20 lp20 bt20 S20 hbt L19 D19 wp19 lp19
      -- note
      dsimp only
      refine r_set ?_
      refine ⟨⟨_, rfl⟩, _, rfl, lp, rfl, ⟨_, .of lp21⟩, fun np hnp => ?_⟩
      have nln : lp ≠ np := ne_of_none lp21 hnp
      refine lc_list (xs := ((R.map (·.1)).map mk).map V.str) (fun i H' => H' = upd H21 np (.lst ((R.take i).map fun q => V.str (mk (q.1 ++ noteL))))) rfl (fun i H' _ e => ?_) (fun i v H' hv e => ?_) (fun H22 e => ?_)
      · subst e
        exact .of (by rw [upd_ne nln]; exact lp21)
      · subst e
        rw [List.getElem?_map, List.getElem?_map, List.getElem?_map] at hv
        cases hi : R[i]? with
        | none => rw [hi] at hv; cases hv
        | some z =>
          rw [hi] at hv
          cases hv
          have hzl := (hall z (List.mem_of_getElem? hi)).2
          have hil : i < R.length := by
            rcases Nat.lt_or_ge i R.length with y | y
            · exact y
            · rw [List.getElem?_eq_none y] at hi
              cases hi
          refine ⟨rfl, _, rfl, _, _, rfl, rfl, ?_, _, upd_same, ?_, ?_⟩
          · rw [noteS, len_mk, len_mk]
            show z.1.length + 4 ≤ sizeLine
            omega
          · rw [List.length_map, List.length_take]
            omega
          · rw [upd_upd, List.take_add_one, hi, noteS, mk_app]
            simp
      rw [List.length_map, List.length_map, List.length_map, List.take_length] at e
      have V1 : Same H21 H22 := by rw [e]; exact (Same.refl H21).new hnp
      have np22 : H22 np = some (.lst (((R.map fun q => q.1 ++ noteL).map mk).map V.str)) := by
        rw [e, upd_same, List.map_map, List.map_map]
        rfl
      have L22 := L21.same V1
      have D22 := D21.same V1
      have wp22 := V1 _ _ wp21
      clear e hnp nln V1 L21 D21 wp21 lp21 bt21
      refine ⟨_, np, (R.map fun q => q.1 ++ noteL).map mk, rfl, rfl, .inl (.of np22), ?_, ?_⟩
      · have h1 := sum_len (m := 400) ((R.map fun q => q.1 ++ noteL).map mk) fun y hy => by
          obtain ⟨z, hz, rfl⟩ := List.mem_map.mp hy
          obtain ⟨q, hq, rfl⟩ := List.mem_map.mp hz
          rw [len_mk, List.length_append]
          have := (hall q hq).2
          have : noteL.length = 4 := rfl
          omega
        rw [List.length_map, List.length_map] at h1 ⊢
        rw [show (Str.ofString "\n").length = 1 by decide +kernel]
        omega
      rw [join_nlS]
      -- alike: the notes
      refine r_ifN ?_
      refine ⟨_, rfl, _, _, none, rfl, tN, fun _ p1 H23 V2 hp1 ht1 => ?_, noBad⟩
      refine ⟨_, rfl, _, rfl, _, x, _, R, none, rfl, tN, tX, fun _ H24 V3 => ?_, noBad⟩
      refine ⟨[], _, none, rfl, nil_text, fun _ p3 H25 V4 hp3 ht3 => ?_, noBad⟩
      refine ⟨onlyL, _, none, by rw [onlyS]; rfl, only_text, fun _ p4 H26 V5 hp4 ht4 => ?_, noBad⟩
      rw [only_toks] at ht4
      rw [words_noted] at ht1
      rw [words_noted]
      have ee : decide (wordsOf R = wordsOf R) = true := decide_eq_true rfl
      rw [ee]
      refine ⟨by show 4 ≤ sizeLine; omega, fun fl hfl => ?_⟩
      have F1 := (((V3.trans V4).trans V5).new (o := HO.lst [V.ref p1, V.bl true, V.ref p3, V.ref p4]) hfl) _ _ ht1
      have F3 := (V5.new (o := HO.lst [V.ref p1, V.bl true, V.ref p3, V.ref p4]) hfl) _ _ ht3
      have F4 := ht4.same ((Same.refl H26).new (o := HO.lst [V.ref p1, V.bl true, V.ref p3, V.ref p4]) hfl)
      have fla := upd_same (H := H26) (a := fl) (o := HO.lst [V.ref p1, V.bl true, V.ref p3, V.ref p4])
      have V6 := (((V2.trans V3).trans V4).trans V5).new (o := HO.lst [V.ref p1, V.bl true, V.ref p3, V.ref p4]) hfl
      generalize upd H26 fl (HO.lst [V.ref p1, V.bl true, V.ref p3, V.ref p4]) = H27 at F1 F3 F4 fla V6 ⊢
      have L27 := L22.same V6
      have D27 := D22.same V6
      have wp27 := V6 _ _ wp22
      clear V6 hfl V5 V4 V3 V2 hp1 ht1 hp3 ht3 hp4 ht4 L22 D22 wp22 np22 ee
      refine ⟨_, rfl, wp, _, rfl, .inl ⟨.of wp27, fun t1 ht1 => ?_⟩⟩
      have T1 := (Same.refl H27).new (o := HO.tup ((wordsOf R).map V.str)) ht1
      have t1a := upd_same (H := H27) (a := t1) (o := HO.tup ((wordsOf R).map V.str))
      generalize upd H27 t1 (HO.tup ((wordsOf R).map V.str)) = G1 at T1 t1a ⊢
      refine ⟨by show 0 ≤ sizeLine; omega, fun t2 ht2 => ?_⟩
      have T2 := (Same.refl G1).new (o := HO.tup []) ht2
      have t2a := upd_same (H := G1) (a := t2) (o := HO.tup [])
      generalize upd G1 t2 (HO.tup []) = G2 at T2 t2a ⊢
      refine ⟨by show 4 ≤ sizeLine; omega, fun t3 ht3 => ?_⟩
      refine ⟨by show 1 ≤ sizeLine; omega, fun t4 ht4 => ?_⟩
      have n34 : t3 ≠ t4 := ne_of_none upd_same ht4
      refine ⟨by show 4 ≤ sizeLine; omega, fun dl hdl => ?_⟩
      have T3 := ((((Same.refl G2).new ht3).new ht4).new (o := HO.lst [V.ref t1, V.bl true, V.ref t2, V.ref t4]) hdl)
      have t3b := ((Same.refl _).new (o := HO.lst [V.ref t1, V.bl true, V.ref t2, V.ref t4]) hdl) t3 _ (by rw [upd_ne n34]; exact upd_same)
      have t4b := ((Same.refl _).new (o := HO.lst [V.ref t1, V.bl true, V.ref t2, V.ref t4]) hdl) t4 _ upd_same
      refine ⟨_, _, .list [.tuple ((wordsOf R).map PyData.str), .bool true, .tuple [], .tuple [tokD (Str.ofString "end", Str.ofString "", 1, 7)]], rfl, ?_, ?_, ?_, fun H28 V7 => ⟨true, rfl, iteF ?_⟩⟩
      · exact Dp.same ((T1.trans T2).trans T3) (.lst (.of fla) (.cons (dp_strs F1) (.cons (.bl _) (.cons (dp_strs (ys := []) F3) (.cons (dp_toksT F4) .nil)))))
      · refine .lst (.of upd_same) (.cons (dp_strs (T3 _ _ (T2 _ _ t1a))) (.cons (.bl _) (.cons (dp_strs (ys := []) (T3 _ _ t2a)) (.cons (.tup (.of t4b) (.cons ?_ .nil)) .nil))))
        refine .tup (.of t3b) (.cons (.str _) (.cons ?_ (.cons (.int _) (.cons (.int _) .nil))))
        rw [nE]
        exact .str _
      · simp only [szD, szL, sz_strs, hwn, tokD]
        omega
      have T4' := ((T1.trans T2).trans T3).trans V7
      have L28 := L27.same T4'
      clear T4' V7 T3 t3b t4b n34 hdl ht4 ht3 T2 t2a ht2 T1 t1a ht1 F1 F3 F4 fla L27 D27 wp27
      -- runs
      refine r_set ?_
      refine pairs_lst _ (by show 7 ≤ sizeLine; omega) _ _ _ fun m1 H29 k1 V8 hm1 hn1 hv1 hk1 => ?_
      refine r_set ?_
      refine r_op (r_var rfl ?_)
      refine pairs_lst _ (by show 6 ≤ sizeLine; omega) _ _ _ fun m2 H30 k2 V9 hm2 hn2 hv2 hk2 => ?_
      have hk13 := V9 _ _ (upd_same (H := H29) (a := k1) (o := .lst (m1.map fun q => V.ref q.1)))
      have n12 : k1 ≠ k2 := ne_of_none hk13 hk2
      have l1 : m1.length = 7 := by rw [← List.length_map (f := Prod.snd), hv1]; rfl
      have l2 : m2.length = 6 := by rw [← List.length_map (f := Prod.snd), hv2]; rfl
      refine ⟨k1, k2, _, _, rfl, rfl, by rw [upd_ne n12]; exact hk13, upd_same, by rw [List.length_map, List.length_map]; omega, fun rl hrl => ?_⟩
      have VA : Same H29 H30 := ((Same.refl H29).new hk1).trans V9
      have VB : Same H30 (upd (upd H30 k2 (.lst (m2.map fun q => V.ref q.1))) rl (.lst (m1.map (fun q => V.ref q.1) ++ m2.map fun q => V.ref q.1))) := ((Same.refl H30).new hk2).new hrl
      have rla : upd (upd H30 k2 (.lst (m2.map fun q => V.ref q.1))) rl (.lst (m1.map (fun q => V.ref q.1) ++ m2.map fun q => V.ref q.1)) rl = some (.lst ((m1 ++ m2).map fun q => V.ref q.1)) := by rw [upd_same, List.map_append]
      have mt : ∀ q ∈ m1 ++ m2, upd (upd H30 k2 (.lst (m2.map fun q => V.ref q.1))) rl (.lst (m1.map (fun q => V.ref q.1) ++ m2.map fun q => V.ref q.1)) q.1 = some (.tup [q.2.1, q.2.2]) := fun q hq => by
        rcases List.mem_append.mp hq with h | h
        · exact VB _ _ (VA _ _ (hm1 q h))
        · exact VB _ _ (hm2 q h)
      have mv : (m1 ++ m2).map (·.2) = runsV := by
        rw [List.map_append, hv1, hv2]
        rfl
      have L31 := L28.same ((V8.trans VA).trans VB)
      generalize upd (upd H30 k2 (.lst (m2.map fun q => V.ref q.1))) rl (.lst (m1.map (fun q => V.ref q.1) ++ m2.map fun q => V.ref q.1)) = H31 at rla mt L31 ⊢
      generalize em : m1 ++ m2 = m at rla mt mv
      have lm : m.length = 13 := by rw [← em, List.length_append, l1, l2]
      clear VB VA hrl l1 l2 n12 hk13 hk2 hv2 hn2 hm2 V9 hk1 hv1 hn1 hm1 V8 L28 em
      have mk13 : ∀ {j : Nat} {z : Addr × (V × V)}, m[j]? = some z → ∃ q ∈ runsL, z.2 = (.str q.1, q.2) := fun {j z} h => by
        have : z.2 ∈ runsV := by rw [← mv]; exact List.mem_map_of_mem (List.mem_of_getElem? h)
        obtain ⟨q, h1, h2⟩ := List.mem_map.mp this
        exact ⟨q, h1, h2.symm⟩
      refine r_ifN1 ?_
      refine ⟨_, rfl, rl, rfl, ⟨_, .of rla⟩, fun D1 hD1 => ?_⟩
      refine lc_list (xs := m.map fun q => V.ref q.1) (fun i H' => Same H31 H' ∧ H' D1 = some (.lst ((m.take i).map fun q => q.2.2))) ⟨(Same.refl H31).new hD1, upd_same⟩ (fun i H' _ h => .of (h.1 _ _ rla)) (fun i v H' hv h => ?_) (fun H32 h => ?_)
      · obtain ⟨SH, hD⟩ := h
        rw [List.getElem?_map] at hv
        cases hi : m[i]? with
        | none => rw [hi] at hv; cases hv
        | some z =>
          rw [hi] at hv
          cases hv
          obtain ⟨q, hq, hzq⟩ := mk13 hi
          have hzt := SH _ _ (mt z (List.mem_of_getElem? hi))
          rw [hzq] at hzt
          obtain ⟨o1, o2, o3⟩ := runs_ok q hq
          refine ⟨z.1, _, rfl, .of hzt, rfl, _, _, rfl, _, _, rfl, rfl, ?_⟩
          refine ⟨rfl, _, rfl, tl q.1, by rw [mk_tl']; rfl, o2, by omega, fun H'' S'' => ?_⟩
          rw [o1]
          have hil : i < m.length := by
            rcases Nat.lt_or_ge i m.length with y | y
            · exact y
            · rw [List.getElem?_eq_none y] at hi
              cases hi
          refine ⟨_, S'' _ _ hD, ?_, (SH.trans S'').own hD1, ?_⟩
          · rw [List.length_map, List.length_take]
            omega
          · rw [upd_same, List.take_add_one, hi]
            simp [hzq]
      obtain ⟨SH, hD⟩ := h
      rw [List.length_map, List.take_length] at hD
      have eK : (m.map fun q => q.2.2) = runsL.map (·.2) := by
        have : (m.map fun q => q.2.2) = (m.map (·.2)).map (·.2) := by rw [List.map_map]; rfl
        rw [this, mv]
        rfl
      rw [eK] at hD
      refine ⟨_, rfl, rl, rfl, ⟨_, .of (SH _ _ rla)⟩, fun D2 hD2 => ?_⟩
      have nrD : rl ≠ D2 := ne_of_none (SH _ _ rla) hD2
      refine lc_list (xs := m.map fun q => V.ref q.1) (fun i H' => H' = upd H32 D2 (.lst ((m.take i).map fun q => q.2.2))) rfl (fun i H' _ e => ?_) (fun i v H' hv e => ?_) (fun H33 e => ?_)
      · subst e
        exact .of (by rw [upd_ne nrD]; exact SH _ _ rla)
      · subst e
        rw [List.getElem?_map] at hv
        cases hi : m[i]? with
        | none => rw [hi] at hv; cases hv
        | some z =>
          rw [hi] at hv
          cases hv
          have hzt := SH _ _ (mt z (List.mem_of_getElem? hi))
          have nz : z.1 ≠ D2 := ne_of_none hzt hD2
          refine ⟨z.1, _, rfl, .of (by rw [upd_ne nz]; exact hzt), rfl, _, _, rfl, _, _, rfl, rfl, ?_⟩
          refine ⟨rfl, _, rfl, _, upd_same, ?_, ?_⟩
          · rw [List.length_map, List.length_take]
            omega
          · rw [upd_upd, List.take_add_one, hi]
            simp
      rw [List.length_map, List.take_length, eK] at e
      have S33 : Same H32 H33 := by rw [e]; exact (Same.refl H32).new hD2
      refine ⟨_, _, .list ((runsL.map (·.2)).map toD), rfl, .lst (.of (S33 _ _ hD)) dp_runs, .lst (.of (by rw [e, upd_same])) dp_runs, ?_, fun H34 S34 => ⟨true, rfl, iteF ?_⟩⟩
      · decide +kernel
      exact ⟨⟨_, rfl, rfl⟩, ((L31.same SH).same S33).same S34⟩
end
end K21
namespace K21
open PySem PySem.Spec PyProof.Rows L2 TL Lore LoreX LamX
section
variable {w : World} {K : PySem.W.Frag} {h : Heap} {mg : Str → Option Value}
theorem fx_of (X : K.In h) (G : h.Ns mainGlobals mg) (c : He.SaysZ fa fn [] tf cs ex w h K) : Fx K mg := by
  have cd : He.SaysD fa fn K := He.SaysT.d c.x.t
  obtain ⟨e1, e2⟩ := He.ba c.x.more
  obtain ⟨e2, e3⟩ := He.ba e2
  have gKEYS := He.glo_ok X G (cd.fact 16 (f := .glo "KEYS") rfl)
  have gSIGNS := He.glo_ok X G (cd.fact 17 (f := .glo "SIGNS") rfl)
  refine ⟨He.free_ok X G (cd.fact 31 (f := .free "all") rfl), He.free_ok X G (cd.fact 32 (f := .free "len") rfl), He.free_ok X G (cd.fact 33 (f := .free "enumerate") rfl), He.free_ok X G (cd.fact 34 (f := .free "tuple") rfl), He.free_ok X G (cd.fact 35 (f := .free "abs") rfl), He.free_ok X G (cd.fact 36 (f := .free "int") rfl), He.free_ok X G (cd.fact 37 (f := .free "isinstance") rfl), He.free_ok X G (cd.fact 38 (f := .free "bool") rfl), He.free_ok X G (cd.fact 39 (f := .free "str") rfl), He.free_ok X G (cd.fact 40 (f := .free "list") rfl), He.free_ok X G (cd.fact 41 (f := .free "zip") rfl), He.free_ok X G (cd.fact 42 (f := .free "range") rfl), He.free_ok X G (cd.fact 43 (f := .free "super") rfl), He.str_ok X G (cd.fact 18 (f := .str "LETTERS" "abcdefghijklmnopqrstuvwxyz") rfl), He.str_ok X G (cd.fact 19 (f := .str "CAPITALS" "ABCDEFGHIJKLMNOPQRSTUVWXYZ") rfl), He.str_ok X G (cd.fact 20 (f := .str "DIGITS" "0123456789") rfl), ⟨_, gKEYS, fun H => He.tupB_ok e2 H⟩, ⟨_, gSIGNS, fun H => He.tupB_ok e1 H⟩, He.int_ok X G (cd.fact 21 (f := .int "MOST_SIGNS" 8) rfl), He.int_ok X G (cd.fact 30 (f := .int "MOST_FIGURES" 3) rfl), He.str_ok X G (cd.fact 22 (f := .str "NAME" "name") rfl), He.str_ok X G (cd.fact 23 (f := .str "KEY" "key") rfl), He.str_ok X G (cd.fact 24 (f := .str "VARIABLE" "variable") rfl), He.str_ok X G (cd.fact 25 (f := .str "NUMBER" "number") rfl), He.str_ok X G (cd.fact 26 (f := .str "SIGN" "sign") rfl), He.str_ok X G (cd.fact 27 (f := .str "END" "end") rfl), He.str_ok X G (cd.fact 28 (f := .str "BLANK" " ") rfl), He.str_ok X G (cd.fact 29 (f := .str "NOTE" "#") rfl)⟩
theorem facts (X : K.In h) (G : h.Ns mainGlobals mg) (c : He.SaysZ fa fn [] tf cs ex w h K) {f : Addr} (hmg : mg "law" = some (.ref f)) : LawAtS PySem.Challenge.rw_lorehouse_k21_words_of_texts_with_their w K CX0 9 63 "script" mg f h := by
  have FX := fx_of X G c
  have cd : He.SaysD fa fn K := He.SaysT.d c.x.t
  obtain ⟨e1, e2⟩ := He.ba c.x.more
  obtain ⟨e2, e3⟩ := He.ba e2
  have XA := exAll_of e3
  have ec := hmg.symm.trans (He.glo_ok X G (cd.fact 14 (f := .glo "law") rfl))
  cases ec
  obtain ⟨fd_is_in_run, F_is_in_run⟩ := cd.def_ 1 (d := d_is_in_run) rfl
  have F_is_in_run : FnP K "is_in_run" s_is_in_run (He.ga K "is_in_run") fd_is_in_run := F_is_in_run
  obtain ⟨fd_kind_of_run, F_kind_of_run⟩ := cd.def_ 2 (d := d_kind_of_run) rfl
  have F_kind_of_run : FnP K "kind_of_run" s_kind_of_run (He.ga K "kind_of_run") fd_kind_of_run := F_kind_of_run
  obtain ⟨fd_run_at, F_run_at⟩ := cd.def_ 3 (d := d_run_at) rfl
  have F_run_at : FnP K "run_at" s_run_at (He.ga K "run_at") fd_run_at := F_run_at
  obtain ⟨fd_sign_at, F_sign_at⟩ := cd.def_ 4 (d := d_sign_at) rfl
  have F_sign_at : FnP K "sign_at" s_sign_at (He.ga K "sign_at") fd_sign_at := F_sign_at
  obtain ⟨fd_words_of_line, F_words_of_line⟩ := cd.def_ 5 (d := d_words_of_line) rfl
  have F_words_of_line : FnP K "words_of_line" s_words_of_line (He.ga K "words_of_line") fd_words_of_line := F_words_of_line
  obtain ⟨fd_words_of, F_words_of⟩ := cd.def_ 6 (d := d_words_of) rfl
  have F_words_of : FnP K "words_of" s_words_of (He.ga K "words_of") fd_words_of := F_words_of
  obtain ⟨fd_plain_words, F_plain_words⟩ := cd.def_ 7 (d := d_plain_words) rfl
  have F_plain_words : FnP K "plain_words" s_plain_words (He.ga K "plain_words") fd_plain_words := F_plain_words
  obtain ⟨fd_are_alike, F_are_alike⟩ := cd.def_ 8 (d := d_are_alike) rfl
  have F_are_alike : FnP K "are_alike" s_are_alike (He.ga K "are_alike") fd_are_alike := F_are_alike
  obtain ⟨fd_spaced, F_spaced⟩ := cd.def_ 9 (d := d_spaced) rfl
  have F_spaced : FnP K "spaced" s_spaced (He.ga K "spaced") fd_spaced := F_spaced
  obtain ⟨fd_law_bag, F_law_bag⟩ := cd.def_ 10 (d := d_law_bag) rfl
  have F_law_bag : FnP K "_law_bag" s_law_bag (He.ga K "_law_bag") fd_law_bag := F_law_bag
  obtain ⟨fd_law_take, F_law_take⟩ := cd.def_ 11 (d := d_law_take) rfl
  have F_law_take : FnP K "_law_take" s_law_take (He.ga K "_law_take") fd_law_take := F_law_take
  obtain ⟨fd_law_some, F_law_some⟩ := cd.def_ 12 (d := d_law_some) rfl
  have F_law_some : FnP K "_law_some" s_law_some (He.ga K "_law_some") fd_law_some := F_law_some
  obtain ⟨fd_law_alike, F_law_alike⟩ := cd.def_ 13 (d := d_law_alike) rfl
  have F_law_alike : FnP K "_law_alike" s_law_alike (He.ga K "_law_alike") fd_law_alike := F_law_alike
  obtain ⟨fd_law_heard, F_law_heard⟩ := cd.def_ 14 (d := d_law_heard) rfl
  have F_law_heard : FnP K "_law_heard" s_law_heard (He.ga K "_law_heard") fd_law_heard := F_law_heard
  obtain ⟨fd_law, F_law⟩ := cd.def_ 15 (d := d_law) rfl
  have F_law : FnP K "law" s_law (He.ga K "law") fd_law := F_law
  have b_is_in_run := F_is_in_run.bindsN (ps := ["sign"]) fun _ _ _ _ _ _ us hl => match us, hl with | [_], _ => rfl
  have g_is_in_run := He.glo_ok X G (cd.fact 0 (f := .glo "is_in_run") rfl)
  have b_kind_of_run := F_kind_of_run.bindsN (ps := ["run"]) fun _ _ _ _ _ _ us hl => match us, hl with | [_], _ => rfl
  have g_kind_of_run := He.glo_ok X G (cd.fact 1 (f := .glo "kind_of_run") rfl)
  have b_run_at := F_run_at.bindsN (ps := ["line", "at"]) fun _ _ _ _ _ _ us hl => match us, hl with | [_, _], _ => rfl
  have g_run_at := He.glo_ok X G (cd.fact 2 (f := .glo "run_at") rfl)
  have b_sign_at := F_sign_at.bindsN (ps := ["line", "at"]) fun _ _ _ _ _ _ us hl => match us, hl with | [_, _], _ => rfl
  have g_sign_at := He.glo_ok X G (cd.fact 3 (f := .glo "sign_at") rfl)
  have b_words_of_line := F_words_of_line.bindsN (ps := ["line", "number"]) fun _ _ _ _ _ _ us hl => match us, hl with | [_, _], _ => rfl
  have g_words_of_line := He.glo_ok X G (cd.fact 4 (f := .glo "words_of_line") rfl)
  have b_words_of := F_words_of.bindsN (ps := ["text"]) fun _ _ _ _ _ _ us hl => match us, hl with | [_], _ => rfl
  have g_words_of := He.glo_ok X G (cd.fact 5 (f := .glo "words_of") rfl)
  have b_plain_words := F_plain_words.bindsN (ps := ["text"]) fun _ _ _ _ _ _ us hl => match us, hl with | [_], _ => rfl
  have g_plain_words := He.glo_ok X G (cd.fact 6 (f := .glo "plain_words") rfl)
  have b_are_alike := F_are_alike.bindsN (ps := ["one", "other"]) fun _ _ _ _ _ _ us hl => match us, hl with | [_, _], _ => rfl
  have g_are_alike := He.glo_ok X G (cd.fact 7 (f := .glo "are_alike") rfl)
  have b_spaced := F_spaced.bindsN (ps := ["words"]) fun _ _ _ _ _ _ us hl => match us, hl with | [_], _ => rfl
  have g_spaced := He.glo_ok X G (cd.fact 8 (f := .glo "spaced") rfl)
  have b_law_bag := F_law_bag.bindsN (ps := ["script"]) fun _ _ _ _ _ _ us hl => match us, hl with | [_], _ => rfl
  have g_law_bag := He.glo_ok X G (cd.fact 9 (f := .glo "_law_bag") rfl)
  have b_law_take := F_law_take.bindsN (ps := ["bag", "many"]) fun _ _ _ _ _ _ us hl => match us, hl with | [_, _], _ => rfl
  have g_law_take := He.glo_ok X G (cd.fact 10 (f := .glo "_law_take") rfl)
  have b_law_some := F_law_some.bindsN (ps := ["bag", "things"]) fun _ _ _ _ _ _ us hl => match us, hl with | [_, _], _ => rfl
  have g_law_some := He.glo_ok X G (cd.fact 11 (f := .glo "_law_some") rfl)
  have b_law_alike := F_law_alike.bindsN (ps := ["found", "due"]) fun _ _ _ _ _ _ us hl => match us, hl with | [_, _], _ => rfl
  have g_law_alike := He.glo_ok X G (cd.fact 12 (f := .glo "_law_alike") rfl)
  have gB := He.glo_ok X G (cd.fact 15 (f := .glo "BadText") rfl)
  have gH := He.glo_ok X G (cd.fact 13 (f := .glo "_law_heard") rfl)
  -- the error's class
  obtain ⟨oc0, od0, fd0, osl0, y0, cc0, cda0, lk0, hcl0, hcd0, hcell0, hfile0, hcode0, hdef0⟩ := initOk_of XA.io
  obtain ⟨dV0, kV0, doc0, pm0, an0, cdv0, ct0, efd0, ecd0, ecl0, edf0⟩ := clo_of (c.clo 0 (d := (dC, ["__class__"])) rfl) lk0
  rw [hcl0] at efd0 ecl0
  have ey0 : y0 = "__class__" := by simpa using ecl0
  rw [hcd0] at ecd0
  rw [hdef0] at edf0
  rw [← ecd0, ey0, ← edf0] at efd0
  rw [efd0] at lk0
  have hqn : fd0.qualname = "BadText.__init__" := by rw [efd0]; rfl
  rw [hqn] at hcode0
  have IN : ∀ base : Heap, FnOk (PySem.Challenge.rw_lorehouse_k21_words_of_texts_with_their).prog w K mg base CX0 1 (He.fAd K ("BadText", some "__init__")) fd0 ["self", "line", "column"] (spInit2 (He.ga K "BadText") "line" "column") := fun base => by
    rw [efd0]
    exact ok_init2 (ar := ⟨"self", none, ⟨8, 17, 8, 21⟩⟩) lk0 hcode0 ⟨XA.ox, ⟨_, _, _, _, lk0, rfl⟩, hfile0, hcell0, XA.mro, XA.nosuper, by decide +kernel, XA.init, XA.ve, XA.opq⟩ ⟨rfl, rfl, rfl, by decide +kernel, by decide +kernel, by decide +kernel, by decide +kernel, rfl, rfl⟩ (XA.nof _ (by simp)) (XA.nof _ (by simp))
  have IB : Binds K fd0 ["self", "line", "column"] [] := by
    rw [efd0]
    exact Binds.all fun us hl => match us, hl with | [_, _, _], _ => rfl
  have HD : Hd K mg (He.ga K "BadText") := ⟨gB, XA.xf, XA.nof _ (by simp), XA.nof _ (by simp), He.exm_ok (cd.fact 44 (f := .exm "BadText" "BadText" true) rfl), _, _, F_law_heard, gH⟩
  -- the law's own code and table
  obtain ⟨oc, od, dV, kV, doc, pm, an, cdv, ct, osl, efd, lk, hcd, _, _⟩ := F_law.ex
  obtain ⟨c1, rfl⟩ := He.codeIn_ref hcd
  have bL := F_law.bindsA (ps := ["script"]) fun _ _ _ _ _ _ us hl => match us, hl with | [_], _ => rfl
  have ecT : (He.cT K ("law", none)).1 = c1 := He.codeOf_eq lk (by rw [efd])
  refine ⟨fd_law, [He.cT K ("law", none)], spLaw K (He.cT K ("law", none)).2, fun p hp => ?_, fun p hp => ?_, fun p hp => ?_, fun s u => bL s [u] rfl, fun H a ns hl _ hT hS => ?_, fun base Kb Nb TBb => ?_⟩
  · cases List.mem_singleton.mp hp
    exact c.x.empty _ (List.mem_singleton.mpr rfl)
  · cases List.mem_singleton.mp hp
    exact c.x.out _ (List.mem_singleton.mpr rfl)
  · cases List.mem_singleton.mp hp
    exact PySem.W.codeHd_of_K X (c.x.hd _ (List.mem_singleton.mpr rfl))
  · exact ⟨a, ns, rfl, hS, hT _ (List.mem_singleton.mpr rfl), fun _ => rfl⟩
  · have TB := TBb _ (List.mem_singleton.mpr rfl)
    rw [ecT] at TB
    have E2 : Exc2 (PySem.Challenge.rw_lorehouse_k21_words_of_texts_with_their).prog w K mg base "BadText" (He.ga K "BadText") "line" "column" := ⟨XA.ox, gB, _, fd0, "self", XA.find, XA.fty, IB, IN base⟩
    let P0 := (PySem.Challenge.rw_lorehouse_k21_words_of_texts_with_their).prog
    let cIR : Cal P0 w K mg base CX0 1 "is_in_run" ["sign"] spInRun := ⟨_, _, ok_inrun F_is_in_run FX, g_is_in_run, F_is_in_run.kp, b_is_in_run⟩
    let cK : Cal P0 w K mg base CX0 1 "kind_of_run" ["run"] spKind := ⟨_, _, ok_kind F_kind_of_run FX, g_kind_of_run, F_kind_of_run.kp, b_kind_of_run⟩
    let cRA : Cal P0 w K mg base CX0 2 "run_at" ["line", "at"] spRunAt := ⟨_, _, ok_runat F_run_at FX cIR, g_run_at, F_run_at.kp, b_run_at⟩
    let cSA : Cal P0 w K mg base CX0 1 "sign_at" ["line", "at"] spSignAt := ⟨_, _, ok_signat F_sign_at FX, g_sign_at, F_sign_at.kp, b_sign_at⟩
    let cWL : Cal P0 w K mg base (L2.CX P0 w) 3 "words_of_line" ["line", "number"] (spLine (He.ga K "BadText")) := ⟨_, _, ok_line F_words_of_line FX E2 cRA cSA cK, g_words_of_line, F_words_of_line.kp, b_words_of_line⟩
    let cW : Cal P0 w K mg base (L2.CX P0 w) 4 "words_of" ["text"] (spWords (He.ga K "BadText")) := ⟨_, _, ok_words F_words_of FX cWL, g_words_of, F_words_of.kp, b_words_of⟩
    let cP : Cal P0 w K mg base (L2.CX P0 w) 5 "plain_words" ["text"] (spPlain (He.ga K "BadText")) := ⟨_, _, ok_plain F_plain_words FX cW, g_plain_words, F_plain_words.kp, b_plain_words⟩
    let cL : Cal P0 w K mg base (L2.CX P0 w) 6 "are_alike" ["one", "other"] (spLike (He.ga K "BadText")) := ⟨_, _, ok_like F_are_alike FX cP, g_are_alike, F_are_alike.kp, b_are_alike⟩
    let cSp : Cal P0 w K mg base CX0 1 "spaced" ["words"] (spSpaced K) := ⟨_, _, ok_spaced F_spaced FX, g_spaced, F_spaced.kp, b_spaced⟩
    let cTake : Cal P0 w K mg base CX0 1 "_law_take" ["bag", "many"] spTake := ⟨_, _, ok_take F_law_take FX.int, g_law_take, F_law_take.kp, b_law_take⟩
    let cBag : Cal P0 w K mg base CX0 1 "_law_bag" ["script"] (spBag K) := ⟨_, _, ok_bag F_law_bag FX.abs, g_law_bag, F_law_bag.kp, b_law_bag⟩
    let cSome : Cal P0 w K mg base CX0 2 "_law_some" ["bag", "things"] (spSome K) := ⟨_, _, ok_some F_law_some cTake FX.len, g_law_some, F_law_some.kp, b_law_some⟩
    let cAl : Cal P0 w K mg base CX0 1 "_law_alike" ["found", "due"] (spAlike K) := ⟨_, _, ok_alike F_law_alike FX.isinstance FX.bool FX.str FX.tuple FX.list FX.zip FX.len, g_law_alike, F_law_alike.kp, b_law_alike⟩
    rw [efd] at lk ⊢
    exact fn_of lk hcd sc_law (fun vs H Q E h => by obtain ⟨a, ns, rfl, _⟩ := h; rfl) fun A outer s H vs Q E hr h => law_body FX ⟨cTake, cBag, cSome, cAl, cSp, cK, cW, cP, cL⟩ HD TB hr h
end
end K21
open PySem PySem.W PySem.Calls PyProof.Rows
theorem PySem.Challenge.cw_lorehouse_k21_words_of_texts_with_their_holds : PySem.Challenge.rw_lorehouse_k21_words_of_texts_with_their.Holds := by
  w_on; o_law
  refine HandSHeadRun.head_any (r := OpenLaw.row PySem.Challenge.rw_lorehouse_k21_words_of_texts_with_their) (q := view (OpenLaw.row PySem.Challenge.rw_lorehouse_k21_words_of_texts_with_their).prog [34]) (H := K21.hk) (ob := K21.ob) (M := 2000) (loose := K21.loose) (d := HandSHeadRun.topDef (OpenLaw.row PySem.Challenge.rw_lorehouse_k21_words_of_texts_with_their).prog 34) (kwd := []) K21.ob_eq
    (by kernel_rfl) (fun s => by kernel_rfl) K21.run (by kernel_rfl) (by kernel_rfl) (by kernel_rfl) (by rfl) (by first | assumption | decide +kernel) (by decide +kernel) ⟨rfl, rfl, rfl, rfl, rfl, by decide +kernel⟩ ?hw ?hc
  case hw => w_witness2
  case hc =>
    refine LamX.walk_ofTsE (l := PySem.Challenge.rw_lorehouse_k21_words_of_texts_with_their) (n := 63) (k := 9) (x := "script") (CX := fun _ => L2.CX0) rfl (by decide) (by kernel_rfl) ⟨rfl, by decide, by decide⟩ ?F (fun _ _ _ _ _ z => z)
    intro w mg fa h Y G hmg0
    obtain ⟨K, KX, c⟩ := Y
    have hmg : mg ("law" : PySem.Str) = some (.ref fa) := by
      have e : (HandSHeadRun.topDef (OpenLaw.row PySem.Challenge.rw_lorehouse_k21_words_of_texts_with_their).prog 34).name = ("law" : PySem.Str) := by kernel_rfl
      rw [← e]
      exact hmg0
    exact ⟨K, KX, K21.facts KX G c hmg⟩
