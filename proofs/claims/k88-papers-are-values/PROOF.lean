import PyProof.Rows.All
import Wide.All
import OpenK.AllK
import Wide.FinOn
import HandS.ForMost
import HandS.More
import HandS.IsInst
import HandS.ExcInit
import HandS.Star
import HandS.Nested
import HandS.SlotsOwn
import KE.KSuper
import KE.KExcSuper
import KE.KExcIs
import HandS.ExcField
import HandS.MakeKw
import HandS.Zip
import HandS.Defaults
import PySem.Challenge.RW_crowdsplit_k88_papers_are_values_of_thei
import HandS.Codes
import KE.KStateDown
import HandS.Head0
import HandS.Head1
import HandS.Head2
import HandS.HeadEnd
import HandS.HeadHook1
import HandS.HeadHook2
import HandS.Ends
set_option Elab.async false
set_option linter.all false
set_option maxRecDepth 100000
set_option maxHeartbeats 4000000
/-! super().__init__(..) as the first statement of a method whose class cell is captured -/
namespace K8
open PySem PySem.Spec PyProof.Rows L2 NdefX
/-- what is written of such a method -/
structure SupF (prog : Program) (K : PySem.W.Frag) (f : Addr) (name qual : Str) (params : Arguments) (body : List Stmt) (scope : Scope) (cc cda D : Addr) (fd : FuncData) : Prop where
  lk : ∃ oc od osl kV doc pm an ct, fd = PySem.W.fnX name qual params body scope [("__class__", cc)] .none kV doc pm an (.ref cda) ct ∧ K.lookup f = some ⟨oc, od, .func fd, osl⟩
  code : ∃ ccl cdd vs ccs file tf, K.lookup cda = some ⟨ccl, cdd, .fields vs, ccs⟩ ∧ vs[2]? = some (.str file tf) ∧ ((prog.main.file : Str) == file) = true
  cin : PySem.W.codeIn K (.ref cda) qual = true
  cell : ∃ cl cld csl, K.lookup cc = some ⟨cl, cld, .cell (some (.ref D)), csl⟩
  kp : PySem.W.keepIn K (.ref f) = true
  cls : ∃ cdD, PySem.W.clsIn K D = some cdD
  sup : PySem.W.nsIn K mainGlobals "super" = some none
  sta : PySem.W.nsIn K cStatics "thirdparty.any" = some none

section
variable {X : Cx} {pins : List (Addr × Obj)} {σ : L2.St} {H : Hp} {s : Shared}
theorem clsIn_obj {K : PySem.W.Frag} {h : Heap} {D : Addr} {cd : ClassData} (KI : K.In h) (e : PySem.W.clsIn K D = some cd) : ∃ oD, h.get? D = some oD ∧ oD.data = .cls cd := by
  unfold PySem.W.clsIn at e
  split at e
  · rename_i c d cd' sl ho
    cases e
    exact ⟨_, KI _ _ ho, rfl⟩
  · cases e
/-- the super object is made -/
theorem sup_node {name qual : Str} {params : Arguments} {fbody : List Stmt} {scope : Scope} {f cc cda D L x C : Addr} {fd : FuncData} {ar : Arg} {ox : Obj} {p0 p1 : Pos} {whole : Sem Value} {Q : Value → Shared → Prop}
    (T : SupF X.prog X.K f name qual params fbody scope cc cda D fd) (I : Inv X pins σ H s) (hX : X.env = PySem.W.envX qual scope L f (.ref cda) [("__class__", cc)])
    (hk : scope.kind = .function) (hp : (params.posonlyargs ++ params.args).head? = some ar) (hN : X.N[0]? = some ar.arg) (hσ : σ[0]? = some (some (.ref x))) (hl : scope.names.lookup ar.arg = some .local)
    (hks : scope.names.lookup ("super" : Str) = some .globalImplicit) (hkc : scope.names.lookup ("__class__" : Str) = some .free) (htop : (X.prog.main.scope.names.lookup ("super" : Str)).isSome = false)
    (hx : s.heap.get? x = some ox) (hc : ox.cls = .ref C) (hnc : ∀ c, ox.data ≠ .cls c) (hsub : PySem.W.mroIn X.K C (.ref D) = some true)
    (h : ∀ s' so, Inv X pins σ H s' → s'.heap.get? so = some (PySem.W.ks_superObj D x C) → (∀ b o, s.heap.get? b = some o → s'.heap.get? b = some o) → Q (.ref so) s') :
    _root_.PySem.wpAt (model X.prog X.w) X.A (.func fbody X.env) (attributeBase (.Call (.Name "super" p0) [] [] p1) "__init__" X.env whole) Q X.xe s := by
  obtain ⟨oc, od, osl, kV, doc, pm, an, ct, efd, lk⟩ := T.lk
  obtain ⟨ccl, cdd, vs, ccs, file, tf, lc, hvs, hfile⟩ := T.code
  obtain ⟨cl, cld, csl, lcell⟩ := T.cell
  obtain ⟨cdD, hD⟩ := T.cls
  have KI := I.kIn
  obtain ⟨oD, hD1, hD2⟩ := clsIn_obj KI hD
  obtain ⟨m, hn, hloc⟩ := I.loc
  obtain ⟨u, ru, lu⟩ := hloc 0 ar.arg (.ref x) hN hσ (.inl (by rw [hX]; exact hl))
  obtain rfl : u = Value.ref x := ru
  have hm : m ar.arg = some (.ref x) := by
    rcases lu with ⟨_, z⟩ | ⟨z, _⟩
    · exact z
    · have z' : scope.names.lookup ar.arg = some .cell ∨ scope.names.lookup ar.arg = some .free := by
        rw [hX] at z
        exact z
      rw [hl] at z'
      rcases z' with z' | z' <;> cases z'
  have kX : X.env.scope.kind = .function := by rw [hX]; exact hk
  have k1 : X.env.kindOf "super" = some .globalImplicit := by rw [hX]; exact hks
  have k2 : X.env.kindOf "__class__" = some .free := by rw [hX]; exact hkc
  have k3 : X.env.kindOf ar.arg = some .local := by rw [hX]; exact hl
  refine ks_wpAt_super_base (env := X.env) k1 k2 rfl (f := f) (by rw [hX]) (KI _ _ lk) rfl (by rw [efd]; exact hp) (cc := cda) (by rw [hX]) (KI _ _ lc) rfl hvs hfile htop ?_
  have hmg : X.mg "super" = none := PySem.W.mg_none_of I.mod.kin I.mod.glob T.sup
  obtain ⟨mb, hb1, hb2⟩ := I.mod.blt
  refine PySem.W.ks_loadName_global kX k1 (Calls.loadGlobal_builtin (by rw [I.ok.glob]; exact I.mod.glob.keeps I.bk) hmg (by rw [I.ok.blt]; exact hb1.keeps I.bk) ((hb2 _ (by decide +kernel)).trans (by decide +kernel)) ⟨rfl, ?_⟩)
  refine wpAny_loadName_free kX k2 (c := cc) (by rw [hX] <;> rfl) ⟨_, KI _ _ lcell, rfl⟩ ?_
  refine wpAny_loadName_local kX k3 hn hm ?_
  obtain ⟨hh, g, d, t, os⟩ := s
  refine ks_wpAny_isType_cls hD1 hD2 ⟨rfl, ?_⟩
  refine ks_wpAny_call_super hD1 hD2 hx hc hnc (PySem.W.looks_mroIn KI hsub) fun h' e k => ?_
  exact h _ _ (I.kept (t' := t) k) e k

/-- a new object that is not tracked is pinned -/
theorem pin_new {o : Obj} {t' : Nat} (I : Inv X pins σ H s) (hd : ∀ v, o.data ≠ .cell v) (hfr : o.isFreed = false := by rfl) : Inv X (pins ++ [(s.heap.objs.size, o)]) σ H { s with heap := s.heap.push o, toks := t' } := by
  have J : Inv X pins σ H { s with heap := s.heap.push o, toks := t' } := I.kept fun b u e => Heap.get?_push_of_some _ e
  refine J.pins_of fun p hp => ?_
  rcases List.mem_append.mp hp with hp | hp
  · exact J.pin p (List.mem_append_right _ hp)
  · obtain rfl := List.mem_singleton.mp hp
    exact ⟨Heap.get?_push_at rfl hfr, I.hok.fresh (Nat.le_refl _), fun z => absurd I.lt (by show ¬ X.env.locals < s.heap.objs.size; rw [← z]; exact Nat.lt_irrefl _), I.nofs (Nat.le_refl _), hd⟩

/-- super().__init__(e, ..), the next __init__ a def of the text at f2 -/
theorem sup_own {CX : CXT} {k : Nat} {f2 : Addr} {sp : Sp} {E : XK} {ta : TA} {name qual : Str} {params : Arguments} {fbody : List Stmt} {scope : Scope} {f cc cda D L x C : Addr} {fd : FuncData} {ar : Arg} {e : Expr} {es : List Expr} {p0 p1 p2 p3 p4 : Pos} {dx : Addr} {fs : List (Str × V)} {R : Hp → Prop}
    (T : SupF X.prog X.K f name qual params fbody scope cc cda D fd) (I : Inv X pins σ H s) (hX : X.env = PySem.W.envX qual scope L f (.ref cda) [("__class__", cc)])
    (hk : scope.kind = .function) (hp : (params.posonlyargs ++ params.args).head? = some ar) (hN : X.N[0]? = some ar.arg) (hσ : σ[0]? = some (some (.ref x))) (hl : scope.names.lookup ar.arg = some .local)
    (hks : scope.names.lookup ("super" : Str) = some .globalImplicit) (hkc : scope.names.lookup ("__class__" : Str) = some .free) (htop : (X.prog.main.scope.names.lookup ("super" : Str)).isSome = false)
    (hx : H x = some (.ins C dx fs)) (hsub : PySem.W.mroIn X.K C (.ref D) = some true)
    (hm : PySem.W.ks_superIn X.K C D "__init__" = some (some (.ref f2))) (ht : PySem.W.typeIn X.K (.ref f2) = some (.type "function")) (hfi : PySem.W.fnIn X.K f2 = true)
    (F : FnR X.prog X.w X.K X.mg X.base CX k f2 sp) (hr : Room k X.A) (hxE : Passes CX X E) (ha : PA X (e :: es) ta)
    (he : starEach (e :: es) X.env = (false, eval e X.env) :: starEach es X.env) (hpl : (backTo p3 (starEach es X.env)).any (·.1) = false)
    (h : ta σ H fun ws H1 => sp (.ref x :: ws) H1 (fun _ H2 => R H2) E) {pl : Sem Bool}
    (hev : eval (.Call (.Attribute (.Call (.Name "super" p0) [] [] p1) "__init__" p2) (e :: es) [] p3) X.env = (do
      let ov ← attributeBase (.Call (.Name "super" p0) [] [] p1) "__init__" X.env (eval (.Call (.Name "super" p0) [] [] p1) X.env)
      standAt p2.atName
      let (f, first) ← holding [ov] (getMethod ov "__init__" pl)
      callWith p3 f first (backTo p3 (starEach (e :: es) X.env)) []) := by rfl) :
    _root_.PySem.wpAt (model X.prog X.w) X.A (.func fbody X.env) (exec (.Expr (.Call (.Attribute (.Call (.Name "super" p0) [] [] p1) "__init__" p2) (e :: es) [] p3) p4) X.env) (fun fl s' => fl = .next ∧ ∃ H', Inv X pins σ H' s' ∧ R H') X.xe s := by
  obtain ⟨mA, O, _⟩ := ins_get I.hok hx
  refine ks_wpAt_Expr_any (ks_wpAt_MethodCall (pl := pl) ?_ hev) (by simp [interactive, I.ok.kind])
  refine sup_node T I hX hk hp hN hσ hl hks hkc htop O.obj rfl (fun c z => nomatch z) hsub fun s1 so I1 hso keep => ?_
  obtain ⟨cd, hcd⟩ : ∃ cd, PySem.W.clsIn X.K C = some cd := by
    unfold PySem.W.ks_superIn at hm
    cases z : PySem.W.clsIn X.K C with
    | none => rw [z] at hm; cases hm
    | some cd => exact ⟨cd, rfl⟩
  obtain ⟨of, hof, hofc⟩ : ∃ of, s1.heap.get? f2 = some of ∧ of.cls = .type "function" := by
    have ht' : (X.K.lookup f2).map (·.cls) = some (.type "function") := ht
    cases z : X.K.lookup f2 with
    | none => rw [z] at ht'; cases ht'
    | some of => rw [z] at ht'; exact ⟨of, I1.kIn _ _ z, Option.some.inj ht'⟩
  have hal : PySem.W.alongIn X.K "__init__" ((cd.mro.dropWhile (· != .ref D)).drop 1) = some (some (.ref f2)) := by
    unfold PySem.W.ks_superIn at hm
    rw [hcd] at hm
    exact hm
  have hxC : x ≠ C := by
    obtain ⟨od, J, _⟩ := O.look
    exact PySem.W.ks_ne I.kIn J hcd
  obtain ⟨hh, g, d, t, os⟩ := s1
  refine ks_wpAny_getMethod_super hso (PySem.W.looks_opaque I1.kIn T.sta) (l₀ := cd.mro) (fun A Q E s k q => wpAny_bind ((PySem.W.looks_clsIn I1.kIn hcd) A _ E s k (wpAny_pure q))) rfl I1.kIn hal hof hofc hxC rfl ?_
  have I2 := pin_new (t' := t + 1) (o := PySem.W.methodObj (.ref f2) (.ref x)) I1 (fun v z => nomatch z)
  have hpin : ∀ {σ' H' s'}, Inv X (pins ++ [(hh.objs.size, PySem.W.methodObj (.ref f2) (.ref x))]) σ' H' s' → s'.heap.get? hh.objs.size = some (PySem.W.methodObj (.ref f2) (.ref x)) := fun J => (J.pin _ (List.mem_append_right _ (List.mem_append_right _ (List.mem_singleton.mpr rfl)))).1
  show wpAny _ _ (callWith p3 (.ref hh.objs.size) [] (backTo p3 (starEach (e :: es) X.env)) []) _ _ _
  rw [he]
  refine PySem.W.callWith_of (P := PySem.W.MethP X.K hh.objs.size f2 (.ref x)) (by show ((false || (backTo p3 (starEach es X.env)).any (·.1)) || false) = false; rw [hpl] <;> rfl) (PySem.W.keeps_M hfi) (Calls.evalArgs_plain ?_)
  have hrun := ha.run p3 _ _ σ H _ I2 h
  rw [he] at hrun
  refine thn hrun fun us s3 ⟨ws, H3, I3, r3, q3⟩ => ⟨⟨hpin I3, I3.kIn⟩, ?_⟩
  refine wpAny_call (ks_codeAny_call_bound (hpin I3) ?_)
  refine codeAny_mono (run_fnR (us := .ref x :: us) (vs := .ref x :: ws) F hr hxE I3 (.cons rfl r3) q3) fun r s4 hr4 => ?_
  cases r with
  | error er => exact hr4
  | ok fl =>
    cases fl with
    | ret v =>
      obtain ⟨_, H4, I4, _, q4⟩ := hr4
      exact ⟨rfl, H4, I4.unpinned, q4⟩
    | next => exact False.elim hr4
    | brk => exact False.elim hr4
    | cont => exact False.elim hr4
end
end K8
set_option Elab.async false
set_option linter.all false
set_option maxRecDepth 100000
set_option maxHeartbeats 4000000
namespace K8
open PySem PySem.Spec PyProof.Rows L2 NdefX
/-- the words of the method, as the nested layer has them -/
abbrev sNF (name qual : Str) (params : Arguments) (body : List Stmt) (scope : Scope) (cc cda : Addr) : NF := ⟨name, qual, params, body, scope, [("__class__", cc)], cda⟩
section
variable {CX : CXT} {P : Program} {w : World} {K : PySem.W.Frag} {mg : Str → Option Value} {base : Heap} {k : Nat} {f cc cda D : Addr} {name qual : Str} {params : Arguments} {st : Stmt} {rest : List Stmt} {scope : Scope} {fd : FuncData} {N ps : List Str} {sp : Sp}
theorem fn_sup (T : SupF P K f name qual params (st :: rest) scope cc cda D fd) (S : NScope N ps ["__class__"] scope) (len : ∀ vs H Q E, sp vs H Q E → vs.length = ps.length)
    (hbody : ∀ (A : Around) (outer : List Env) (s : Shared) (H : Hp) (vs : List V) (Q : VK) (E : XK), Room k (A.deeper (envF (sNF name qual params (st :: rest) scope cc cda) f s.heap.objs.size)) → sp vs H Q E →
      ∃ (R : Hp → Prop) (t : TS), (∀ s1, Inv (ncx CX P w K mg base N (sNF name qual params (st :: rest) scope cc cda) f A outer s H E) [] (startF N vs [some (.ref D)]) H s1 →
          _root_.PySem.wpAt (model P w) (A.deeper (envF (sNF name qual params (st :: rest) scope cc cda) f s.heap.objs.size)) (.func (st :: rest) (envF (sNF name qual params (st :: rest) scope cc cda) f s.heap.objs.size))
            (exec st (envF (sNF name qual params (st :: rest) scope cc cda) f s.heap.objs.size))
            (fun fl s' => fl = .next ∧ ∃ H', Inv (ncx CX P w K mg base N (sNF name qual params (st :: rest) scope cc cda) f A outer s H E) [] (startF N vs [some (.ref D)]) H' s' ∧ R H')
            (ncx CX P w K mg base N (sNF name qual params (st :: rest) scope cc cda) f A outer s H E).xe s1) ∧
        PSs (ncx CX P w K mg base N (sNF name qual params (st :: rest) scope cc cda) f A outer s H E) rest t ∧ ∀ H', R H' → t { nx := fun _ H' => Q .non H', rt := Q } (startF N vs [some (.ref D)]) H') :
    FnOk P w K mg base CX (k + 1) f fd ps sp := by
  refine ⟨len, fun A outer s H args us vs Q E hr e0 hb r hsp => ?_⟩
  have hl := len _ _ _ _ hsp
  obtain ⟨oc, od, osl, kV, doc, pm, an, ct, efd, lk⟩ := T.lk
  obtain ⟨cl, cld, csl, lcell⟩ := T.cell
  have KX : K.In s.heap := e0.mod.kin.keeps fun b o e => (e0.bs b o e).1
  have lim : s.heap.NoLimit := e0.mod.nolimit.keeps fun b o e => (e0.bs b o e).1
  have hcc : base.get? cc = some ⟨cl, cld, .cell (some (.ref D)), csl⟩ := e0.mod.kin _ _ lcell
  have C : CellsAt [(("__class__" : Str), cc)] ["__class__"] [some (.ref D)] s.heap H := by
    have lu : ∀ {y : Str} {c : Addr}, ([(("__class__" : Str), cc)] : List (Str × Addr)).lookup y = some c → y = "__class__" ∧ c = cc := by
      intro y c e
      have hm := PySem.mem_of_lookup e
      obtain ⟨h1, h2⟩ := Prod.mk.inj (List.mem_singleton.mp hm)
      exact ⟨h1, h2⟩
    refine ⟨rfl, fun y c e => ?_, fun x y c e1 e2 => (lu e1).1.trans (lu e2).1.symm, fun i y e => ?_⟩
    · obtain ⟨_, rfl⟩ := lu e
      exact ⟨(e0.bs _ _ hcc).2, _, _, (e0.bs _ _ hcc).1, rfl⟩
    · have hy : y ∈ (["__class__"] : List Str) := List.mem_of_getElem? e
      obtain rfl := List.mem_singleton.mp hy
      refine ⟨cc, rfl, fun v hv => ?_⟩
      have hi : i = 0 := by
        have := (List.getElem?_eq_some_iff.mp e).1
        simp at this
        exact this
      subst hi
      have hv' : (some (some (V.ref D)) : Option (Option V)) = some (some v) := hv
      cases hv'
      exact ⟨_, rfl, _, (e0.bs _ _ hcc).1, rfl⟩
  subst efd
  refine ks_codeAny_call_defAt hr.depth (KX _ _ lk) rfl lim (PySem.W.codeRec_of KX T.cin) rfl hb S.nocell (fun ⟨n, _⟩ hy => S.par n (List.of_mem_zip hy).1) (fun h₁ hns kp => ?_) S.co S.gen S.kind
  have I : Inv (ncx CX P w K mg base N (sNF name qual params (st :: rest) scope cc cda) f A outer s H E) [] (startF N vs [some (.ref D)]) H { s with heap := h₁, toks := s.toks + (ps.zip us).length } :=
    inv_startN S hr.hd e0 hl r C hns kp
  obtain ⟨R, t, h1, h2, h3⟩ := hbody A outer s H vs Q E (hr.deeper _) hsp
  refine ks_wpAt_execs_cons (_root_.PySem.wpAt_mono (h1 _ I) (fun fl s' hs => ?_) fun e s' hs => hs)
  obtain ⟨rfl, H', I', hR⟩ := hs
  refine _root_.PySem.wpAt_of_wpAny (wpAny_mono (h2.run [] _ _ H' _ I' (h3 H' hR)) (fun fl s' hs => ?_) fun e s' hs => hs)
  have fin : ∀ {σ' : L2.St} {H' : Hp} {v : V} {u : Value}, Inv (ncx CX P w K mg base N (sNF name qual params (st :: rest) scope cc cda) f A outer s H E) [] σ' H' s' → L2.RelV v u → Q v H' → CE outer P w H s Q u s' :=
    fun {σ' H' v u} J rv q => ⟨v, H', J.os, J.bare, J.base, J.hok, rv, q⟩
  cases fl with
  | ret u =>
    obtain ⟨v, σ', H', J, rv, q⟩ := hs
    exact fin J rv q
  | next =>
    obtain ⟨σ', H', J, q⟩ := hs
    exact fin (v := V.non) (u := Value.none) J rfl q
  | brk =>
    obtain ⟨_, _, _, q⟩ := hs
    exact False.elim q
  | cont =>
    obtain ⟨_, _, _, q⟩ := hs
    exact False.elim q
end
end K8
set_option Elab.async false
set_option linter.all false
set_option maxRecDepth 100000
set_option maxHeartbeats 4000000
namespace K8
open PySem PySem.Spec PyProof.Rows L2 NdefX
section
variable {X : Cx} {pins : List (Addr × Obj)} {σ : L2.St} {H : Hp} {s : Shared}
/-- the wrapper of ValueError.__init__ bound to an exception, called -/
theorem mw_call {x C u : Addr} {us : List Value} {Q : Value → Shared → Prop} {A : Around} {E : Value → Shared → Prop} (T : OexC X.K C) (I : Inv X pins σ H s) (e : H x = some (exo x C none)) (hu : s.heap.get? u = some (PySem.W.kxs_mw "ValueError.__init__" x)) (hz : us.length ≤ sizeLine)
    (h : ∀ s', Inv X pins σ H s' → Q .none s') : wpAny (model X.prog X.w) A (call (.ref u) us) Q E s := by
  obtain ⟨nm, q, N, bs, bm, sn, sub, ab, col, dd, k0, k1, k2, k3, k5, hC, hbm⟩ := T.cls
  obtain ⟨t1, ho⟩ := exo_at I.hok e
  have hCh := I.kIn _ _ hC
  obtain ⟨hp, g, d, t, os⟩ := s
  refine wpAny_call (codeAny_of_tree ?_)
  show wpAny _ A.in1 (callAny (.ref u) ⟨us, []⟩) _ _ _
  unfold callAny
  refine wpAny_bind (wpAny_load hu ?_)
  have hk : (Value.type "method-wrapper" == Value.type "method" || Value.type "method-wrapper" == Value.type "builtin_function_or_method" || Value.type "method-wrapper" == Value.type "method-wrapper") = true := by decide
  dsimp only [PySem.W.kxs_mw]
  refine PySem.W.KFB.if_so hk (wpAny_bind (PySem.W.check_bound_init F.excBase_ValueError.toExcCallFacts hCh ho rfl (wpAny_bind (wpAny_pure (wpAny_pure ⟨plainId_quiet F.excBase_ValueError.init.plain _, codeAny_builtin F.excBase_ValueError.initEntry ?_⟩)))))
  refine PySem.W.exc_init_tree (cls := .ref C) (t0 := t1) (dv := none) (c2 := .none) (c3 := .none) (b4 := .bool false) ho hz fun h' k hx _ => ?_
  have J := I.write (t' := t) (x := x) (e := x) (o := exo x C none) (by rw [e]; exact True.intro) (.inl rfl) k ⟨_, hx⟩ (exo_ok hx)
  have eu : upd H x (exo x C none) = H := by
    funext b
    by_cases hb : b = x
    · rw [hb, upd_same, e]
    · rw [upd_ne hb]
  rw [eu] at J
  exact h _ J

/-- super().__init__(e, ..) in an exception's own __init__, the next one ValueError's -/
theorem sup_exc {ta : TA} {name qual : Str} {params : Arguments} {fbody : List Stmt} {scope : Scope} {f cc cda D L x C : Addr} {fd : FuncData} {ar : Arg} {e : Expr} {es : List Expr} {p0 p1 p2 p3 p4 : Pos} {R : Hp → Prop}
    (T : SupF X.prog X.K f name qual params fbody scope cc cda D fd) (I : Inv X pins σ H s) (hX : X.env = PySem.W.envX qual scope L f (.ref cda) [("__class__", cc)])
    (hk : scope.kind = .function) (hp : (params.posonlyargs ++ params.args).head? = some ar) (hN : X.N[0]? = some ar.arg) (hσ : σ[0]? = some (some (.ref x))) (hl : scope.names.lookup ar.arg = some .local)
    (hks : scope.names.lookup ("super" : Str) = some .globalImplicit) (hkc : scope.names.lookup ("__class__" : Str) = some .free) (htop : (X.prog.main.scope.names.lookup ("super" : Str)).isSome = false)
    (T0 : OexC X.K C) (hx : H x = some (exo x C none)) (hsub : PySem.W.mroIn X.K C (.ref D) = some true)
    (hm : PySem.W.ks_superIn X.K C D "__init__" = some (some (.builtin "ValueError.__init__"))) (hB : PySem.W.subIn X.K (.ref C) (.type "ValueError") = some true)
    (ha : PA X (e :: es) ta)
    (he : starEach (e :: es) X.env = (false, eval e X.env) :: starEach es X.env) (hpl : (backTo p3 (starEach es X.env)).any (·.1) = false)
    (h : ta σ H fun ws H1 => ws.length ≤ 1000 ∧ H1 x = some (exo x C none) ∧ R H1) {pl : Sem Bool}
    (hev : eval (.Call (.Attribute (.Call (.Name "super" p0) [] [] p1) "__init__" p2) (e :: es) [] p3) X.env = (do
      let ov ← attributeBase (.Call (.Name "super" p0) [] [] p1) "__init__" X.env (eval (.Call (.Name "super" p0) [] [] p1) X.env)
      standAt p2.atName
      let (f, first) ← holding [ov] (getMethod ov "__init__" pl)
      callWith p3 f first (backTo p3 (starEach (e :: es) X.env)) []) := by rfl) :
    _root_.PySem.wpAt (model X.prog X.w) X.A (.func fbody X.env) (exec (.Expr (.Call (.Attribute (.Call (.Name "super" p0) [] [] p1) "__init__" p2) (e :: es) [] p3) p4) X.env) (fun fl s' => fl = .next ∧ ∃ H', Inv X pins σ H' s' ∧ R H') X.xe s := by
  obtain ⟨t1, ho⟩ := exo_at I.hok hx
  refine ks_wpAt_Expr_any (ks_wpAt_MethodCall (pl := pl) ?_ hev) (by simp [interactive, I.ok.kind])
  refine sup_node T I hX hk hp hN hσ hl hks hkc htop ho rfl (fun c z => nomatch z) hsub fun s1 so I1 hso keep => ?_
  obtain ⟨cd, hcd⟩ : ∃ cd, PySem.W.clsIn X.K C = some cd := by
    unfold PySem.W.ks_superIn at hm
    cases z : PySem.W.clsIn X.K C with
    | none => rw [z] at hm; cases hm
    | some cd => exact ⟨cd, rfl⟩
  have hal : PySem.W.alongIn X.K "__init__" ((cd.mro.dropWhile (· != .ref D)).drop 1) = some (some (.builtin "ValueError.__init__")) := by
    unfold PySem.W.ks_superIn at hm
    rw [hcd] at hm
    exact hm
  have J0 : PySem.W.InstAt s.heap x _ C none := ⟨ho, rfl, rfl, trivial⟩
  have hxC : x ≠ C := PySem.W.ks_ne I.kIn J0 hcd
  obtain ⟨t2, ho1⟩ := exo_at I1.hok hx
  have J1 : PySem.W.InstAt s1.heap x _ C none := ⟨ho1, rfl, rfl, trivial⟩
  have hI : PySem.W.Looks (model X.prog X.w) s1.heap (isInstance (.ref x) (.type "ValueError")) true := J1.type.andThen (PySem.W.looks_subIn I1.kIn hB)
  obtain ⟨hh, g, d, t, os⟩ := s1
  refine PySem.W.kxs_getMethod PySem.W.kxs_ValueError hso (PySem.W.looks_opaque I1.kIn T.sta) (l₀ := cd.mro) (fun A Q E s k q => wpAny_bind ((PySem.W.looks_clsIn I1.kIn hcd) A _ E s k (wpAny_pure q))) rfl I1.kIn hal hI hxC rfl ?_
  have I2 := pin_new (t' := t + 1) (o := PySem.W.kxs_mw "ValueError.__init__" x) I1 (fun v z => nomatch z)
  have hpin : ∀ {σ' H' s'}, Inv X (pins ++ [(hh.objs.size, PySem.W.kxs_mw "ValueError.__init__" x)]) σ' H' s' → s'.heap.get? hh.objs.size = some (PySem.W.kxs_mw "ValueError.__init__" x) := fun J => (J.pin _ (List.mem_append_right _ (List.mem_append_right _ (List.mem_singleton.mpr rfl)))).1
  show wpAny _ _ (callWith p3 (.ref hh.objs.size) [] (backTo p3 (starEach (e :: es) X.env)) []) _ _ _
  rw [he]
  refine PySem.W.kxs_callWith (i := "ValueError.__init__") (x := x) (by show (false || (backTo p3 (starEach es X.env)).any (·.1)) = false; rw [hpl] <;> rfl) (Calls.evalArgs_plain ?_)
  have hrun := ha.run p3 _ _ σ H _ I2 h
  rw [he] at hrun
  refine thn hrun fun us s3 ⟨ws, H3, I3, r3, hz, hx3, q3⟩ => ⟨hpin I3, ?_⟩
  refine mw_call (us := us) T0 I3 hx3 (hpin I3) (by rw [← Paired.length r3, sizeLine_eq]; omega) fun s4 I4 => ?_
  exact ⟨rfl, H3, I4.unpinned, q3⟩

/-! ### an exception of an own class with an own __init__, made as a value -/
/-- C(e, ..): the exception stands at a new address, its dict beside it -/
def tMkV (C : Addr) (sp : Sp) (dvs : List V) (ta : TA) : TE := fun σ H Q => ta σ H fun vs H1 => vs.length ≤ 1000 ∧ ∀ a, H1 a = none → sp (.ref a :: (vs ++ dvs)) (upd H1 a (exo a C none)) (fun v H2 => v = .non ∧ Q (.ref a) H2) (fun _ _ _ => False)
theorem run_mkv {CX : CXT} {C fI : Addr} {k : Nat} {sp : Sp} {us : List Value} {vs : List V} {Q : VK} (T : OexC X.K C) (iC : PySem.W.findIn X.K (.ref C) "__init__" = some (some (.ref fI))) (tI : PySem.W.typeIn X.K (.ref fI) = some (.type "function"))
    (F1 : FnR X.prog X.w X.K X.mg X.base CX k fI sp) (hr : Room (k + 1) X.A) (hx : Passes CX X (fun _ _ _ => False)) (I1 : Inv X pins σ H s) (r1 : Vals vs us) (hz : vs.length ≤ 1000)
    (h : ∀ a, H a = none → sp (.ref a :: vs) (upd H a (exo a C none)) (fun v H2 => v = .non ∧ Q (.ref a) H2) (fun _ _ _ => False)) :
    wpAny (model X.prog X.w) X.A (call (.ref C) us) (EP X pins σ Q) X.xe s := by
  obtain ⟨nm, q, N, bs, bm, sn, sub, ab, col, dd, k0, k1, k2, k3, k5, hC, hbm⟩ := T.cls
  obtain ⟨hp, g, dr, tk, os⟩ := s
  have hsz : hp.objs.size ≤ hp.objs.size + 1 := Nat.le_succ _
  have hq := h (hp.objs.size + 1) (I1.hok.fresh hsz)
  have kk : ∀ b o, hp.get? b = some o → ((hp.push (PySem.W.kdv_tup us)).push (PySem.HandSPX.excO C hp.objs.size)).get? b = some o := fun b o e => Heap.get?_push_of_some _ (Heap.get?_push_of_some _ e)
  have hget : ((hp.push (PySem.W.kdv_tup us)).push (PySem.HandSPX.excO C hp.objs.size)).get? (hp.objs.size + 1) = some (PySem.HandSPX.excO C hp.objs.size) := by heap_get
  have I2 : Inv X pins σ (upd H (hp.objs.size + 1) (exo (hp.objs.size + 1) C none)) ⟨(hp.push (PySem.W.kdv_tup us)).push (PySem.HandSPX.excO C hp.objs.size), g, dr, tk, os⟩ :=
    I1.laid (t' := tk) (a := hp.objs.size + 1) (o := exo (hp.objs.size + 1) C none) kk hsz (exo_ok hget)
  have hus : us.length ≤ sizeLine := by
    rw [← Paired.length r1, sizeLine_eq]
    omega
  refine wpAny_call (PySem.HandSPX.call_own F.excBase_ValueError (fun Y => PySem.HandSPX.refsVE_contains Y bm hbm) (I1.kIn _ _ hC) (PySem.W.looks_findIn I1.kIn iC) (fun self => PySem.W.bind_fn I1.kIn self tI) hus
    (codeAny_mono (F1 _ X.stack _ _ (Value.ref (hp.objs.size + 1) :: us) (V.ref (hp.objs.size + 1) :: vs) _ (fun _ _ _ => False) (hr.make C us []) (I2.env0.make C us []) (.cons rfl r1) hq) fun r s' hq' => ?_))
  cases r with
  | error er => exact hx pins σ _ _ er s' I2 hq'
  | ok fl =>
    cases fl with
    | ret u =>
      obtain ⟨v, H', I3, rv, ev, q3⟩ := I2.after hq'
      subst ev
      exact ⟨rv, ⟨V.ref (hp.objs.size + 1), H', I3, rfl, q3⟩⟩
    | next => exact False.elim hq'
    | brk => exact False.elim hq'
    | cont => exact False.elim hq'
theorem pe_mkv {CX : CXT} {n : Str} {C fI : Addr} {k : Nat} {sp : Sp} {e : Expr} {es : List Expr} {ta : TA} {p pos : Pos} (T : OexC X.K C) (iC : PySem.W.findIn X.K (.ref C) "__init__" = some (some (.ref fI))) (tI : PySem.W.typeIn X.K (.ref fI) = some (.type "function"))
    (F1 : FnR X.prog X.w X.K X.mg X.base CX k fI sp) (hr : Room (k + 1) X.A) (hx : Passes CX X (fun _ _ _ => False)) (hg : Gl X n) (hm : X.mg n = some (.ref C)) (ha : PA X (e :: es) ta)
    (hdb : (n == ("__debug__" : Str)) = false := by decide) (he : starEach (e :: es) X.env = (false, eval e X.env) :: starEach es X.env := by rfl) (hpl : (backTo pos (starEach es X.env)).any (·.1) = false := by rfl) :
    PE X (.Call (.Name n p) (e :: es) [] pos) (tMkV C sp [] ta) := by
  refine ⟨fun pins s σ H Q I h => wpAny_Call_Name_kw (ld_glob I hg hm (PySem.W.callWith_K (h₀ := X.base) I.ok.mod.kin T.kC (thn (ha.run pos pins s σ H _ I h) fun us s1 ⟨vs, H1, I1, r1, hz, q1⟩ => ⟨I1.kIn, ?_⟩) he hpl) hdb)⟩
  exact run_mkv T iC tI F1 hr hx I1 r1 hz (by rw [List.append_nil] at q1; exact q1)
end
end K8
set_option Elab.async false
set_option linter.all false
set_option maxRecDepth 100000
set_option maxHeartbeats 4000000
namespace K8
open PySem PySem.Spec PyProof.Rows L2 NdefX
/-! ### repr of data -/
theorem dp_noDict {K : PySem.W.Frag} {H : Hp} : (∀ {v : V} {d : PyData}, Dp K H v d → d.hasDict = false) ∧ ∀ {vs : List V} {ds : List PyData}, DpAll K H vs ds → PyData.hasDictAll ds = false := by
  have key : ∀ n : Nat, (∀ (v : V) (d : PyData), sizeOf d ≤ n → Dp K H v d → d.hasDict = false) ∧ ∀ (vs : List V) (ds : List PyData), sizeOf ds ≤ n → DpAll K H vs ds → PyData.hasDictAll ds = false := by
    intro n
    induction n with
    | zero =>
      refine ⟨fun v d h _ => ?_, fun vs ds h _ => ?_⟩
      · cases d <;> simp at h
      · cases ds <;> simp at h
    | succ n ih =>
      have ih1 := ih.1
      have ih2 := ih.2
      refine ⟨fun v d h x => ?_, fun vs ds h x => ?_⟩
      · cases x with
        | lst _ a => rw [PyData.hasDict]; exact ih2 _ _ (by simp at h; omega) a
        | tup _ a => rw [PyData.hasDict]; exact ih2 _ _ (by simp at h; omega) a
        | _ => simp [PyData.hasDict]
      · cases x with
        | nil => simp [PyData.hasDictAll]
        | cons a b =>
          simp at h
          rw [PyData.hasDictAll, ih1 _ _ (by omega) a, ih2 _ _ (by omega) b] <;> rfl
  exact ⟨fun {v d} x => (key _).1 v d (Nat.le_refl _) x, fun {vs ds} x => (key _).2 vs ds (Nat.le_refl _) x⟩
section
variable {X : Cx} {pins : List (Addr × Obj)} {σ : L2.St} {H : Hp} {s : Shared}
/-- repr of a list or a tuple of data -/
theorem call_reprD (hg : X.A.guards = some []) (hu : X.A.units + 64 < cLine) : CallR X (.builtin "repr") (fun xs H Q => ∃ (a : Addr) (d : PyData), xs = [.ref a] ∧ Dp X.K H (.ref a) d ∧ d.showable = true ∧ d.depth ≤ 60 ∧ d.shown.length ≤ sizeLine ∧ Q (.str d.shown) H) := by
  intro pins s σ H xs us Q I r h
  obtain ⟨a, d, rfl, hd, hs, hp, hz, q⟩ := h
  cases r with
  | cons r0 rr =>
    cases rr
    obtain rfl := (show _ = Value.ref a from r0)
    obtain ⟨as, rd⟩ := Dp.reads I d (.ref a) (.ref a) hd rfl
    exact repr_of_reads' rd hs (PyData.noDict_hsm (dp_noDict.1 hd)) hg (by omega) (fun _ _ e => e) (fun h' u tk k => ⟨.str d.shown, H, I.kept (t' := tk) k, ⟨u, rfl⟩, q⟩) hz

/-! ### own == and !=, own truth -/
/-- x == y, x an instance of the class at C whose own __eq__ stands at g -/
def rEqO (K : PySem.W.Frag) (C : Addr) (sp : Sp) (E : XK) : R2 := fun x y H Q => ∃ (a dx : Addr) (fs : List (Str × V)) (tb : Value), x = .ref a ∧ H a = some (.ins C dx fs) ∧ TyX K H y tb ∧ PySem.W.notFirst K C tb = true ∧ sp [x, y] H Q E
theorem op_eqO {CX : CXT} {n : Nat} {C g : Addr} {sp : Sp} {E : XK} (hs : PySem.W.findIn X.K (.ref C) "__eq__" = some (some (.ref g))) (hf : PySem.W.isFn X.K (.ref g) = true) (F : FnR X.prog X.w X.K X.mg X.base CX n g sp) (hr : Room n X.A) (hx : Passes CX X E) :
    OpR X (compareOp .Eq) (rEqO X.K C sp E) := by
  intro pins s σ H x y v u Q I rx ry h
  obtain ⟨a, dx, fs, tb, rfl, ha, ty, hn, q⟩ := h
  obtain rfl : v = Value.ref a := rx
  obtain ⟨mA, O, _⟩ := ins_get I.hok ha
  obtain ⟨od, J, _⟩ := O.look
  obtain ⟨P, Z, p, _⟩ := kit_of I ry ty
  obtain ⟨m, hF⟩ := I.fr
  show wpAny _ _ (richCompare .Eq (.ref a) u) _ _ _
  refine PySem.W.cmp_K (op := .Eq) hr.units0 hF I.ok.mod.kin J (Z.ty _ _ I.kIn p) hn hs hf ?_
  refine wpAny_mono (wpAny_call (run_fnR (us := [.ref a, u]) (vs := [.ref a, y]) F hr hx I (.cons rfl (.cons ry .nil)) q)) (fun w s' z => ?_) fun _ _ x => x
  obtain ⟨z', H', I', rz, qz⟩ := z
  exact SlX.cmpback rz ⟨z', H', I', rz, qz⟩

/-- x != y by the inherited __ne__ -/
def rNeO (K : PySem.W.Frag) (C : Addr) (sp : Sp) (E : XK) : R2 := fun x y H Q => ∃ (a dx : Addr) (fs : List (Str × V)) (tb : Value), x = .ref a ∧ H a = some (.ins C dx fs) ∧ TyX K H y tb ∧ PySem.W.notFirst K C tb = true ∧ sp [x, y] H (fun z H' => ∃ b, z = .bl b ∧ Q (.bl (!b)) H') E
theorem op_neO {CX : CXT} {n : Nat} {C g : Addr} {sp : Sp} {E : XK} (hs : PySem.W.findIn X.K (.ref C) "__eq__" = some (some (.ref g))) (hne : PySem.W.findIn X.K (.ref C) "__ne__" = some (some (.builtin "object.__ne__"))) (hmo : PySem.W.mroIn X.K C (.type "object") = some true)
    (hf : PySem.W.isFn X.K (.ref g) = true) (F : FnR X.prog X.w X.K X.mg X.base CX n g sp) (hr : Room (n + 1) X.A) (hx : ∀ (H : Hp) (s : Shared) (e : Value) (s' : Shared), CX X.stack H s E e s' → X.xe e s') :
    OpR X (compareOp .NotEq) (rNeO X.K C sp E) := by
  intro pins s σ H x y v u Q I rx ry h
  obtain ⟨a, dx, fs, tb, rfl, ha, ty, hn, q⟩ := h
  obtain rfl : v = Value.ref a := rx
  obtain ⟨mA, O, _⟩ := ins_get I.hok ha
  obtain ⟨od, J, _⟩ := O.look
  obtain ⟨P, Z, p, _⟩ := kit_of I ry ty
  have hb := Z.ty (model X.prog X.w) _ I.kIn p
  have KI := I.kIn
  have FB := PySem.F.cmp_object
  have hu0 : X.A.units < cLine := by have := hr.un; omega
  have hu1 : X.A.in1.units < cLine := by have := hr.un; show X.A.units + 1 < cLine; omega
  have sub : PySem.W.Looks (model X.prog X.w) s.heap (isInstance (.ref a) (.type "object")) true := J.type.andThen (PySem.W.looks_mroIn KI hmo)
  -- the own __eq__, called within the inherited __ne__
  have call1 : wpAny (model X.prog X.w) X.A.in1 (call (.ref g) [.ref a, u]) (fun v s' => ∃ b, v = .bool b ∧ EP X pins σ Q (.bool (!b)) s') X.xe s := by
    refine wpAny_call (codeAny_mono (F X.A.in1 X.stack s H [.ref a, u] [.ref a, y] _ E hr.in1 I.env0.in1 (.cons rfl (.cons ry .nil)) q) fun r s' hq => ?_)
    cases r with
    | error e => exact hx _ _ _ _ hq
    | ok fl =>
      cases fl with
      | ret w =>
        obtain ⟨z, H', I', rz, b, rfl, qz⟩ := I.after hq
        obtain rfl : w = Value.bool b := rz
        exact ⟨b, rfl, .bl (!b), H', I', rfl, qz⟩
      | next => exact False.elim hq
      | brk => exact False.elim hq
      | cont => exact False.elim hq
  have body : wpAny (model X.prog X.w) X.A.in1 (Builtin.«object.__ne__» ⟨[.ref a, u], []⟩) (fun fin s' => ∃ b, fin = .done (.ret (.bool b)) ∧ EP X pins σ Q (.bool b) s') X.xe s := by
    unfold Builtin.«object.__ne__»
    refine wpAny_bind (wpAny_of_eq (a := ((Value.ref a : Value), [u])) (by first | rfl | (simp only [slotArgs]; rfl)) ?_)
    refine wpAny_bind (wpAny_cRoomFor hu1 ?_)
    refine wpAny_bind (m := callSpecialIfBound? (.ref a) (Str.ofString "__eq__") [u]) (PySem.W.ifBound_K KI J hs hf (wpAny_mono call1 (fun r s' hr => ?_) fun _ _ e => e))
    obtain ⟨b, rfl, hq⟩ := hr
    exact wpAny_bind (wpAny_truthy_bool (wpAny_pure ⟨!b, rfl, hq⟩))
  have one : wpAny (model X.prog X.w) X.A (tryCompare (.ref a) "__ne__" u) (fun r s' => ∃ v, r = some v ∧ EP X pins σ Q v s') X.xe s := by
    unfold tryCompare
    refine wpAny_bind ?_
    simp only [callSpecialIfBound?, bindSpecialIfBound?]
    refine wpAny_holding (wpAny_bind (wpAny_bind (wpAny_bind (J.type.here ((PySem.W.looks_findIn KI hne).here ?_)))))
    refine wpAny_bind (wpAny_askSetting (wpAny_ite ?_))
    have fin : ∀ Qf : Option Value → Shared → Prop, (∀ b s', EP X pins σ Q (.bool b) s' → Qf (some (.bool b)) s') → wpAny (model X.prog X.w) X.A (call (.builtin "object.__ne__") ([.ref a] ++ [u]) >>= fun v => pure (some v)) Qf X.xe s := fun Qf hQf => by
      refine wpAny_bind (wpAny_call (codeAny_call_builtin FB.ne.plain PySem.F.cmpEntry_ne (@PySem.W.check_slot (model X.prog X.w) _ _ s "object.__ne__" "object" "__ne__" (.ref a) [u] [] _ PySem.F.cmpKind_ne PySem.F.cmpSplit_ne sub (PySem.F.cmpArgs_ne _ _) (wpAny_mono body (fun fn s' hs' => ?_) fun _ _ e => e))))
      obtain ⟨b, rfl, hq⟩ := hs'
      exact wpAny_pure (hQf b s' hq)
    split
    · exact wpAny_bind (wpAny_of_eq (FB.ne.bind (.ref a)) (wpAny_pure (by exact fin _ fun b s' hq => wpAny_pure ⟨_, rfl, hq⟩)))
    · exact wpAny_tryCatch (wpAny_bind (wpAny_of_eq (FB.ne.bind (.ref a)) (wpAny_pure (by exact fin _ fun b s' hq => wpAny_pure ⟨_, rfl, hq⟩))))
  show wpAny _ _ (richCompare .NotEq (.ref a) u) _ _ _
  unfold richCompare
  simp only [oneThing_ref]
  refine wpAny_holding (wpAny_bind (wpAny_cRoomFor hu0 ?_))
  refine wpAny_bind (J.type.here (wpAny_bind (hb.here ?_)))
  split
  · rename_i q
    have e : PySem.W.subIn X.K tb (.ref C) = some false := by
      rcases Bool.or_eq_true_iff.mp hn with e | e
      · rw [beq_iff_eq.mp e] at q; simp at q
      · exact beq_iff_eq.mp e
    refine wpAny_bind ((PySem.W.looks_subIn KI e).here ?_)
    simp only [Bool.false_eq_true, if_false]
    refine wpAny_bind (wpAny_mono one (fun r s' z => ?_) fun _ _ e => e)
    obtain ⟨v, rfl, hq⟩ := z
    exact wpAny_pure hq
  · refine wpAny_bind (wpAny_pure ?_)
    simp only [Bool.false_eq_true, if_false]
    refine wpAny_bind (wpAny_mono one (fun r s' z => ?_) fun _ _ e => e)
    obtain ⟨v, rfl, hq⟩ := z
    exact wpAny_pure hq
end
end K8
set_option Elab.async false
set_option linter.all false
set_option maxRecDepth 100000
set_option maxHeartbeats 4000000
namespace K8
open PySem PySem.Spec PyProof.Rows L2 NdefX
section
variable {X : Cx} {pins : List (Addr × Obj)} {σ : L2.St} {H : Hp} {s : Shared}
/-- bool(x), x an instance whose own __bool__ stands at g -/
theorem call_boolO {CX : CXT} {n : Nat} {C g : Addr} {sp : Sp} {E : XK} (hs : PySem.W.findIn X.K (.ref C) "__bool__" = some (some (.ref g))) (hf : PySem.W.isFn X.K (.ref g) = true) (F : FnR X.prog X.w X.K X.mg X.base CX n g sp) (hr : Room (n + 3) X.A)
    (hx : ∀ (H : Hp) (s : Shared) (e : Value) (s' : Shared), CX X.stack H s E e s' → X.xe e s') :
    CallR X (.type "bool") (fun xs H Q => ∃ (a dx : Addr) (fs : List (Str × V)), xs = [.ref a] ∧ H a = some (.ins C dx fs) ∧ sp [.ref a] H (fun z H' => ∃ b, z = .bl b ∧ Q (.bl b) H') E) := by
  intro pins s σ H xs us Q I r h
  obtain ⟨a, dx, fs, rfl, ha, q⟩ := h
  cases r with
  | cons r0 rr =>
    cases rr
    obtain rfl := (show _ = Value.ref a from r0)
    obtain ⟨mA, O, _⟩ := ins_get I.hok ha
    obtain ⟨od, J, _⟩ := O.look
    obtain ⟨m, hF⟩ := I.fr
    have call1 : wpAny (model X.prog X.w) X.A.in1.in1 (call (.ref g) [.ref a]) (PySem.W.BoolBack fun b s' => EP X pins σ Q (.bool b) s') X.xe s := by
      refine wpAny_call (codeAny_mono (F X.A.in1.in1 X.stack s H [.ref a] [.ref a] _ E ((hr.mono (by omega : n + 2 ≤ n + 3)).in1.in1) I.env0.in1.in1 (.cons rfl .nil) q) fun r s' hq => ?_)
      cases r with
      | error e => exact hx _ _ _ _ hq
      | ok fl =>
        cases fl with
        | ret w =>
          obtain ⟨z, H', I', rz, b, rfl, qz⟩ := I.after hq
          obtain rfl : w = Value.bool b := rz
          exact ⟨.bl b, H', I', rfl, qz⟩
        | next => exact False.elim hq
        | brk => exact False.elim hq
        | cont => exact False.elim hq
    have tr := PySem.W.truthy_K (M := model X.prog X.w) (A := X.A.in1.in1) hF I.ok.mod.kin J hs hf call1
    have f1 := PySem.F.conv_sub_bool
    refine ks_callType_codesW (T := "bool") (newId := "bool.__new__") (initId := "object.__init__") (Q₁ := fun obj s₁ => ∃ b, obj = .bool b ∧ EP X pins σ Q (.bool b) s₁) PySem.F.called_bool (fun {Q' E'} hq => wpAny_of_eq (PySem.F.typeCall_bool_1 (.ref a)) hq) PySem.F.entry_object_init ?_ fun obj s₁ h₁ => ?_
    · refine codeAny_call_builtin PySem.F.called_bool.plain PySem.F.entry_bool_new (wpAny_of_eq (PySem.F.newCall_bool_1 (.ref a)) ?_)
      obtain ⟨hp, g', d', tk', os'⟩ := s
      repeat (any_goals (first | assumption | (with_reducible refine wpAny_bind (wpAny_mono tr ?_ fun _ _ e => e)) | wp_step))
      exact fun b s' hb => wpAny_pure ⟨b, rfl, hb⟩
    · obtain ⟨b, rfl, hq⟩ := h₁
      exact ⟨rfl, PySem.F.args_object_init_2 _ _, object_init_meets PySem.F.called_bool.init.lookup PySem.F.called_bool.made PySem.F.newNe_bool X.prog X.w X.A.in1 _ s₁ ⟨rfl, rfl, hq⟩⟩
/-! ### an exception as a value: its fields, its class -/
/-- e.f, e an exception made by its class, its dict at d -/
def tXv (K : PySem.W.Frag) (f : Str) (te : TE) : TE := fun σ H Q => te σ H fun x H1 => ∃ (a C d : Addr) (fs : List (Str × V)) (v : V), x = .ref a ∧ H1 a = some (exo a C (some d)) ∧ H1 d = some (exd d fs) ∧ XfC K C ∧ PySem.W.findIn K (.ref C) f = some none ∧ fs.lookup f = some v ∧ Q v H1
theorem exo_inst {a C d : Addr} {fs : List (Str × V)} (I : Inv X pins σ H s) (ha : H a = some (exo a C (some d))) (hd : H d = some (exd d fs)) : ∃ (ox od : Obj) (mA : Str → Option Value), PySem.W.InstAt s.heap a ox C (some od) ∧ (∀ name, PySem.W.lookIn name od = some (mA name)) ∧ ∀ f, RelO (fs.lookup f) (mA f) := by
  obtain ⟨t1, ho⟩ := exo_at I.hok ha
  obtain ⟨mA, hns, hr⟩ := exd_at I.hok hd
  obtain ⟨od, hod, hl⟩ := lookIn_ns hns
  exact ⟨_, od, mA, ⟨ho, rfl, rfl, hod⟩, hl, hr⟩
theorem pe_xv {e : Expr} {te : TE} {pos : Pos} {n : Str} (he : PE X e te) (hb : attributeBase e n X.env (eval e X.env) = eval e X.env := by rfl) : PE X (.Attribute e n pos) (tXv X.K n te) := by
  refine ⟨fun pins s σ H Q I h => attr_of hb (thn (he.run pins s σ H _ I h) fun u s1 ⟨x, H1, I1, rx, a, C, d, fs, v, ex, ea, ed, T, hno, l, q⟩ => ?_)⟩
  subst ex
  obtain rfl : u = Value.ref a := rx
  obtain ⟨ox, od, mA, J, hl, hr⟩ := exo_inst I1 ea ed
  obtain ⟨w, hw, rw'⟩ := RelO.some_of (v := v) (o := mA n) (by rw [← l]; exact hr n)
  exact HandSPX.exc_get I1.kIn J T.ga T.gg T.exC (PySem.W.findObj_own T.hdC hno rfl (by rw [hl, hw])) (handed_of rw') ⟨v, H1, I1.tok _, rw', q⟩
/-- what isinstance asks of an own exception class -/
structure XiC (K : PySem.W.Frag) (C : Addr) : Prop where
  x : XfC K C
  ha : PySem.W.findIn K (.ref C) "__class__" = some (some (.builtin "object.__class__"))
  hn : PySem.W.specialIn K (.builtin "object.__class__") "__get__" = some (some (.builtin "getset_descriptor.__get__"))
  ht : PySem.W.takesIn K (.builtin "object.__class__") = some true
  hm : PySem.W.mroIn K C (.type "object") = some true
/-- isinstance of an own exception -/
def rIsiX (K : PySem.W.Frag) : List V → Hp → VK → Prop := fun xs H Q => ∃ (a C d : Addr) (fs : List (Str × V)) (c : V) (u : Value) (b : Bool), xs = [.ref a, c] ∧ ClsV c u ∧ H a = some (exo a C (some d)) ∧ H d = some (exd d fs) ∧ XiC K C ∧ PySem.W.kitOne K (.ref C) u = some b ∧ Q (.bl b) H
theorem call_isiX : CallR X (.builtin "isinstance") (rIsiX X.K) := by
  intro pins s σ H xs us Q I r h
  obtain ⟨a, C, d, fs, c, u, b, rfl, k, ha, hd, T, e, q⟩ := h
  obtain ⟨u1, u2, rfl, r1, r2⟩ := vals2 r
  have e2 := k.eq r2
  subst e2
  obtain rfl : u1 = Value.ref a := r1
  obtain ⟨ox, od, mA, J, _, _⟩ := exo_inst I ha hd
  obtain ⟨cd, hcd, _⟩ := PySem.W.any_some T.x.hdC
  exact PySem.W.kia_one (PySem.W.kitx_exc (by rw [hcd] <;> rfl) T.x.ga T.x.gg T.x.exC T.ha T.hn T.ht T.hm) I.kIn J e (fun z => nomatch z) fun tk => ⟨.bl b, H, I.tok tk, rfl, q⟩
end
end K8
set_option Elab.async false
set_option linter.all false
set_option maxRecDepth 100000
set_option maxHeartbeats 400000
namespace K8
section
open PySem PySem.HandSPX
/-! ### an exception of an own class made by keywords alone -/
section
variable {P : Program} {w : World} {A : Around} {E : Value → Shared → Prop} {R : Result → Shared → Prop} {h : Heap} {gs : Array GenState} {dr : Drawn} {tk : Nat} {os : OsState}
variable {nm q : Str} {C N : Addr} {bs bm bmB : List Value} {hd : Bool} {sn : List Str} {sub : List Value} {ab : Bool} {col : Option Bool} {dd : Option Addr} {k0 k1 k2 k3 k5 : Option Value} {B newId initId : String} {kw : List (Str × Value)}
theorem kw_check (F : ExcBaseFacts B newId initId bmB) (hT : ∀ X : String, bm.contains (.type X) = bmB.contains (.type X)) {Q : Unit → Shared → Prop}
    (hC : h.get? C = some (excClassObj nm q C N bs bm hd sn sub ab col dd k0 k1 k2 k3 k5 newId)) (hq : Q () ⟨h, gs, dr, tk, os⟩) : wpAny (model P w) A (checkBuiltinCall newId ⟨[.ref C], kw⟩) Q E ⟨h, gs, dr, tk, os⟩ := by
  have c1 : (Value.ref C :: bm).contains (.type B) = true := by rw [List.contains_cons, hT, F.hasB, Bool.or_true]
  have st := F.noStar
  simp only [checkBuiltinCall, F.newKind, F.newSplit, F.newRow]
  repeat (first | refine wpAny_loadPart_at hC ?_ | (refine wpAny_isSubtype_exc hC ?_; rw [c1]) | refine wpAny_staticBase_exc hC ?_ | refine wpAny_madeBy_exc hC ?_ | simp only [bne_self_eq_false, Bool.false_eq_true, if_false] | wp_step)
  exact hq
theorem kw_new (F : ExcBaseFacts B newId initId bmB) (hT : ∀ X : String, bm.contains (.type X) = bmB.contains (.type X))
    (hC : h.get? C = some (excClassObj nm q C N bs bm hd sn sub ab col dd k0 k1 k2 k3 k5 newId))
    (hq : R (.ok (.ret (.ref (h.objs.size + 1)))) ⟨(h.push (W.kdv_tup [])).push (excO C h.objs.size), gs, dr, tk, os⟩) :
    codeAny (model P w) A (.builtin newId ⟨[.ref C], kw⟩) R ⟨h, gs, dr, tk, os⟩ := by
  have e0 := F.ends
  have c1 : (Value.ref C :: bm).contains (.type B) = true := by rw [List.contains_cons, hT, F.hasB, Bool.or_true]
  have c2 : (Value.ref C :: bm).contains (.type "AttributeError") = false := by rw [List.contains_cons, hT, F.noAttr]; rfl
  have c3 : (Value.ref C :: bm).contains (.type "NameError") = false := by rw [List.contains_cons, hT, F.noName]; rfl
  have hrest : ([] : List Value).length ≤ sizeLine := by simp
  refine codeAny_builtinAt F.entry ?_
  unfold Builtin.«BaseException.__new__»
  refine wpAt_bind ?_
  show wpAt _ _ _ (stack >>= _) _ _ _
  refine wpAt_bind (wpAt_stack fun p below => wpAt_of_wpAny ?_)
  wp_walk
  refine wpAt_of_wpAny ?_
  rw [F.owner]
  repeat (first | with_reducible refine wpAny_madeHere_exc F.canon hC ?_ | with_reducible refine wpAny_loadPart_at hC ?_ | (with_reducible refine wpAny_isSubtype_exc hC ?_; first | rw [c1] | rw [c2] | rw [c3]) | wp_step)
  show R _ _
  rw [Heap.size_push]
  exact hq
theorem kw_type_call (F : ExcBaseFacts B newId initId bmB) (hT : ∀ X : String, bm.contains (.type X) = bmB.contains (.type X)) {fI : Addr} {Q : Fin → Shared → Prop}
    (hC : h.get? C = some (excClassObj nm q C N bs bm hd sn sub ab col dd k0 k1 k2 k3 k5 newId))
    (hi : W.Looks (model P w) h (typeLookup (.ref C) "__init__") (some (.ref fI))) (hb : ∀ self, W.Looks (model P w) h (bindSpecial (.ref fI) self) (.ref fI, [self]))
    (hq : codeAny (model P w) A (.call (.ref fI) ⟨[.ref (h.objs.size + 1)], kw⟩)
      (fun r s' => match r with | .ok (.ret v) => v = .none ∧ Q (.done (.ret (.ref (h.objs.size + 1)))) s' | .ok _ => False | .error e => E e s')
      ⟨(h.push (W.kdv_tup [])).push (excO C h.objs.size), gs, dr, tk, os⟩) :
    wpAny (model P w) A (Builtin.«type.__call__» ⟨[.ref C], kw⟩) Q E ⟨h, gs, dr, tk, os⟩ := by
  repeat (first | with_reducible refine wpAny_loadPart_at hC ?_ | with_reducible refine wpAny_madeBy_exc hC ?_ | wp_step)
  refine codeAny_call_builtin_code (Code.quiet_builtin _ F.quiet) (kw_check F hT hC ?_)
  refine kw_new F hT hC ?_
  show wpAny _ _ _ _ _ _
  have k : ∀ b o, h.get? b = some o → ((h.push (W.kdv_tup [])).push (excO C h.objs.size)).get? b = some o := fun b o e => Heap.get?_push_of_some _ (Heap.get?_push_of_some _ e)
  have hC2 := k _ _ hC
  have hg2 : ((h.push (W.kdv_tup [])).push (excO C h.objs.size)).get? (h.objs.size + 1) = some (excO C h.objs.size) := by heap_get
  have c4 : (Value.ref C :: bm).contains (.ref C) = true := by simp
  have i1 := hi.keeps k
  have b1 := (hb (.ref (h.objs.size + 1))).keeps k
  unfold isInstance
  repeat (first | with_reducible refine wpAny_loadPart_at hg2 ?_ | (with_reducible refine wpAny_isSubtype_exc hC2 ?_; rw [c4]) | wp_step)
  show wpAny _ _ (typeLookup (.ref C) _) _ _ _
  refine i1.at ?_
  refine wpAny_holding (wpAny_bind (b1.at ?_))
  refine wpAny_bind (wpAny_call (codeAny_mono hq fun r s' z => ?_))
  rcases r with e | (v | _ | _ | _) <;> first | exact z | exact z.elim | skip
  obtain ⟨rfl, z⟩ := z
  first
    | exact wpAny_pure (wpAny_pure z)
    | (wp_walk; exact z)
theorem kw_call (F : ExcBaseFacts B newId initId bmB) (hT : ∀ X : String, bm.contains (.type X) = bmB.contains (.type X)) {fI : Addr}
    (hC : h.get? C = some (excClassObj nm q C N bs bm hd sn sub ab col dd k0 k1 k2 k3 k5 newId))
    (hi : W.Looks (model P w) h (typeLookup (.ref C) "__init__") (some (.ref fI))) (hb : ∀ self, W.Looks (model P w) h (bindSpecial (.ref fI) self) (.ref fI, [self]))
    (hq : codeAny (model P w) (A.under (.builtin "type.__call__" ⟨[.ref C], kw⟩)) (.call (.ref fI) ⟨[.ref (h.objs.size + 1)], kw⟩) (W.InitBack (h.objs.size + 1) R)
      ⟨(h.push (W.kdv_tup [])).push (excO C h.objs.size), gs, dr, tk, os⟩) :
    codeAny (model P w) A (.call (.ref C) ⟨[], kw⟩) R ⟨h, gs, dr, tk, os⟩ := by
  have f1 := tc_lookup
  have f2 := tc_bind (.ref C)
  have hTy : (⟨h, gs, dr, tk, os⟩ : Shared).TypeIs (.ref C) "type" := ⟨_, hC, rfl⟩
  refine codeAny_of_tree ?_
  show wpAny _ _ (callAny (.ref C) _) _ _ _
  repeat (any_goals (first | assumption | with_reducible refine wpAny_loadPart_at hC ?_ | wp_step))
  refine ⟨rfl, ?_⟩
  refine codeAny_call_builtin_at (Code.quiet_builtin _ (by decide +kernel)) entry_typeCall (wpAny_check_type_call_sub hC (kw_type_call F hT hC hi hb ?_))
  refine codeAny_mono hq fun r s' z => ?_
  rcases r with e | (v | _ | _ | _) <;> exact z
end
end
section
open PySem PySem.Spec PyProof.Rows L2 NdefX
variable {X : Cx} {pins : List (Addr × Obj)} {σ : L2.St} {H : Hp} {s : Shared}
/-- C(k = v, ..): the exception stands at a new address -/
def tMkK (C : Addr) (sp : Sp) (gV : List V → List V → List V) (tk : TA) : TE := fun σ H Q => tk σ H fun zs H1 => ∀ a, H1 a = none → sp (gV [.ref a] zs) (upd H1 a (exo a C none)) (fun v H2 => v = .non ∧ Q (.ref a) H2) (fun _ _ _ => False)
theorem run_mkK {CX : CXT} {C fI : Addr} {fd : FuncData} {ps ks : List Str} {k : Nat} {sp : Sp} {ws : List Value} {zs : List V} {Q : VK} {g : List Value → List Value → List Value} {gV : List V → List V → List V} (T : OexC X.K C) (iC : PySem.W.findIn X.K (.ref C) "__init__" = some (some (.ref fI))) (tI : PySem.W.typeIn X.K (.ref fI) = some (.type "function"))
    (F1 : FnOk X.prog X.w X.K X.mg X.base CX k fI fd ps sp) (hb : KBinds X.K fd ps ks g gV) (hr : Room (k + 1) X.A) (hx : Passes CX X (fun _ _ _ => False)) (I1 : Inv X pins σ H s) (rz : Vals zs ws)
    (q1 : ∀ a, H a = none → sp (gV [.ref a] zs) (upd H a (exo a C none)) (fun v H2 => v = .non ∧ Q (.ref a) H2) (fun _ _ _ => False)) :
    wpAny (model X.prog X.w) X.A (call (.ref C) ([] ++ []) (ks.zip ws)) (EP X pins σ Q) X.xe s := by
  obtain ⟨nm, q, N, bs, bm, sn, sub, ab, col, dd, k0, k1, k2, k3, k5, hC, hbm⟩ := T.cls
  obtain ⟨hp, g2, dr, tk2, os⟩ := s
  have hsz : hp.objs.size ≤ hp.objs.size + 1 := Nat.le_succ _
  have hq := q1 (hp.objs.size + 1) (I1.hok.fresh hsz)
  have kk : ∀ b o, hp.get? b = some o → ((hp.push (PySem.W.kdv_tup [])).push (PySem.HandSPX.excO C hp.objs.size)).get? b = some o := fun b o e => Heap.get?_push_of_some _ (Heap.get?_push_of_some _ e)
  have hget : ((hp.push (PySem.W.kdv_tup [])).push (PySem.HandSPX.excO C hp.objs.size)).get? (hp.objs.size + 1) = some (PySem.HandSPX.excO C hp.objs.size) := by heap_get
  have I2 : Inv X pins σ (upd H (hp.objs.size + 1) (exo (hp.objs.size + 1) C none)) ⟨(hp.push (PySem.W.kdv_tup [])).push (PySem.HandSPX.excO C hp.objs.size), g2, dr, tk2, os⟩ :=
    I1.laid (t' := tk2) (a := hp.objs.size + 1) (o := exo (hp.objs.size + 1) C none) kk hsz (exo_ok hget)
  have r1 : Vals [V.ref (hp.objs.size + 1)] [Value.ref (hp.objs.size + 1)] := .cons rfl .nil
  have r2 := hb.rel r1 rz
  have hl : (g [Value.ref (hp.objs.size + 1)] ws).length = ps.length := by rw [← r2.length]; exact F1.len _ _ _ _ hq
  refine wpAny_call (kw_call F.excBase_ValueError (fun Y => PySem.HandSPX.refsVE_contains Y bm hbm) (I1.kIn _ _ hC) (PySem.W.looks_findIn I1.kIn iC) (fun self => PySem.W.bind_fn I1.kIn self tI)
    (codeAny_mono (F1.run _ X.stack _ _ ⟨[Value.ref (hp.objs.size + 1)], ks.zip ws⟩ _ _ _ (fun _ _ _ => False) (hr.make C [] (ks.zip ws)) (I2.env0.make C [] (ks.zip ws)) (hb.to _ _ ws I2.kIn hl) r2 hq) fun r s' hq' => ?_))
  cases r with
  | error er => exact hx pins σ _ _ er s' I2 hq'
  | ok fl =>
    cases fl with
    | ret u =>
      obtain ⟨v, H', I3, rv, ev, q3⟩ := I2.after hq'
      subst ev
      exact ⟨rv, ⟨V.ref (hp.objs.size + 1), H', I3, rfl, q3⟩⟩
    | next => exact False.elim hq'
    | brk => exact False.elim hq'
    | cont => exact False.elim hq'
theorem pe_mkK {CX : CXT} {n : Str} {C fI : Addr} {fd : FuncData} {ps ks : List Str} {k : Nat} {sp : Sp} {kws : List Keyword} {tk : TA} {p pos : Pos} {g : List Value → List Value → List Value} {gV : List V → List V → List V} (T : OexC X.K C) (iC : PySem.W.findIn X.K (.ref C) "__init__" = some (some (.ref fI))) (tI : PySem.W.typeIn X.K (.ref fI) = some (.type "function"))
    (F1 : FnOk X.prog X.w X.K X.mg X.base CX k fI fd ps sp) (hb : KBinds X.K fd ps ks g gV) (hr : Room (k + 1) X.A) (hx : Passes CX X (fun _ _ _ => False)) (hg : Gl X n) (hm : X.mg n = some (.ref C)) (hkw : PK X kws tk)
    (hall : (backToKw pos (keywordEach kws X.env)).all (·.1.isSome) = true := by rfl) (hks : (backToKw pos (keywordEach kws X.env)).filterMap (·.1) = ks := by rfl) (hdb : (n == ("__debug__" : Str)) = false := by decide)
    (hpl : ((backTo pos (starEach [] X.env)).any (·.1) || (backToKw pos (keywordEach kws X.env)).any (·.1.isNone)) = false := by rfl) :
    PE X (.Call (.Name n p) [] kws pos) (tMkK C sp gV tk) := by
  refine ⟨fun pins s σ H Q I h => ?_⟩
  refine wpAny_Call_Name_kw (ld_glob I hg hm ?_ hdb)
  refine PySem.W.callWith_KW0 (h₀ := X.base) I.ok.mod.kin T.kC hall ?_ hpl
  refine thn (hkw.run pos pins s σ H _ I h) fun ws s1 ⟨zs, H1, I1, rz, q1⟩ => ⟨I1.kIn, ?_⟩
  rw [hks]
  exact run_mkK T iC tI F1 hb hr hx I1 rz q1
end
end K8
set_option Elab.async false
set_option linter.all false
set_option maxRecDepth 100000
set_option maxHeartbeats 4000000
/-! the values that the law draws, lists turned to tuples, their texts: plain Lean -/
namespace K8
open PySem
abbrev big : Int := 10 ^ 64
/-- the things without parts -/
def atomOk : PyData → Bool
  | .none => true
  | .bool _ => true
  | .int i => decide (i = 0) || decide (i = 1) || decide (i = 2) || decide (i = -5) || decide (i = big)
  | .str s => decide (s = "x") || decide (s = "light")
  | _ => false
/-- tuples of such, n deep at most -/
def pval : Nat → PyData → Bool
  | 0, d => atomOk d
  | n + 1, .tuple xs => decide (xs.length ≤ 5) && xs.all (pval n)
  | _ + 1, d => atomOk d
theorem pv_atom {n : Nat} {d : PyData} (h : atomOk d = true) : pval n d = true := by
  cases n with
  | zero => exact h
  | succ n => cases d <;> first | exact h | (simp [atomOk] at h)
theorem pv_succ : ∀ {n : Nat} {d : PyData}, pval n d = true → pval (n + 1) d = true
  | 0, d, h => pv_atom h
  | n + 1, .tuple xs, h => by
    simp only [pval, Bool.and_eq_true, List.all_eq_true, decide_eq_true_eq] at h ⊢
    exact ⟨h.1, fun x hx => pv_succ (h.2 x hx)⟩
  | n + 1, .none, h => h
  | n + 1, .bool _, h => h
  | n + 1, .int _, h => h
  | n + 1, .str _, h => h
  | n + 1, .list _, h => h
  | n + 1, .dict _, h => h
theorem pv_mono {n m : Nat} {d : PyData} (h : pval n d = true) (hm : n ≤ m) : pval m d = true := by
  induction hm with
  | refl => exact h
  | step _ ih => exact pv_succ ih
/-- an atom, or a tuple -/
theorem pv_cases {n : Nat} {d : PyData} (h : pval n d = true) : atomOk d = true ∨ ∃ m xs, n = m + 1 ∧ d = .tuple xs ∧ xs.length ≤ 5 ∧ ∀ x ∈ xs, pval m x = true := by
  cases n with
  | zero => exact .inl h
  | succ n =>
    cases d with
    | tuple xs =>
      simp only [pval, Bool.and_eq_true, List.all_eq_true, decide_eq_true_eq] at h
      exact .inr ⟨n, xs, rfl, rfl, h.1, h.2⟩
    | _ => exact .inl h
theorem pv_tuple {n : Nat} {xs : List PyData} : pval (n + 1) (.tuple xs) = true ↔ xs.length ≤ 5 ∧ ∀ x ∈ xs, pval n x = true := by
  simp only [pval, Bool.and_eq_true, List.all_eq_true, decide_eq_true_eq]

/-! ### signs -/
def cs (s : Str) : List Nat := s.cps.toList
theorem cs_app (a b : Str) : cs (a ++ b) = cs a ++ cs b := by
  show (a.cps ++ b.cps).toList = a.cps.toList ++ b.cps.toList
  simp
theorem cs_inj {a b : Str} (h : cs a = cs b) : a = b := PyProof.Rows.ext_toList h
/-- a tail: nothing, or a comma or a closing sign first -/
def Tail : List Nat → Prop
  | [] => True
  | c :: _ => c = 44 ∨ c = 41
theorem tail_l {r : List Nat} : Tail (44 :: r) := Or.inl rfl
theorem tail_r {r : List Nat} : Tail (41 :: r) := Or.inr rfl
def NoSep (u : List Nat) : Prop := ∀ c ∈ u, c ≠ 44 ∧ c ≠ 41
theorem sep_cut : ∀ {u v s t : List Nat}, NoSep u → NoSep v → Tail s → Tail t → u ++ s = v ++ t → u = v ∧ s = t
  | [], [], _, _, _, _, _, _, e => ⟨rfl, e⟩
  | [], c :: v, s, t, _, hv, hs, _, e => by
    have e' : s = c :: (v ++ t) := e
    subst e'
    have h := hv c (List.mem_cons_self ..)
    rcases hs with z | z
    · exact absurd z h.1
    · exact absurd z h.2
  | c :: u, [], s, t, hu, _, _, ht, e => by
    have e' : t = c :: (u ++ s) := e.symm
    subst e'
    have h := hu c (List.mem_cons_self ..)
    rcases ht with z | z
    · exact absurd z h.1
    · exact absurd z h.2
  | c :: u, d :: v, s, t, hu, hv, hs, ht, e => by
    have e' : c :: (u ++ s) = d :: (v ++ t) := e
    obtain ⟨e1, e2⟩ := List.cons.inj e'
    obtain ⟨h1, h2⟩ := sep_cut (fun x hx => hu x (List.mem_cons_of_mem _ hx)) (fun x hx => hv x (List.mem_cons_of_mem _ hx)) hs ht e2
    exact ⟨by rw [e1, h1], h2⟩
/-- the atoms one by one -/
theorem atom_cases {d : PyData} (h : atomOk d = true) : d = .none ∨ d = .bool true ∨ d = .bool false ∨ d = .int 0 ∨ d = .int 1 ∨ d = .int 2 ∨ d = .int (-5) ∨ d = .int big ∨ d = .str "x" ∨ d = .str "light" := by
  cases d with
  | none => simp
  | bool b => cases b <;> simp
  | int i =>
    simp only [atomOk, Bool.or_eq_true, decide_eq_true_eq] at h
    rcases h with (((h | h) | h) | h) | h <;> subst h <;> simp
  | str s =>
    simp only [atomOk, Bool.or_eq_true, decide_eq_true_eq] at h
    rcases h with h | h <;> subst h <;> simp
  | list _ => simp [atomOk] at h
  | tuple _ => simp [atomOk] at h
  | dict _ => simp [atomOk] at h
def atomTexts : List (List Nat) := [cs "None", cs "True", cs "False", cs "0", cs "1", cs "2", cs "-5", cs (toString big), cs (reprText "x"), cs (reprText "light")]
theorem t_none : cs (PyData.shown .none) = cs "None" := by simp [PyData.shown]
theorem t_true : cs (PyData.shown (.bool true)) = cs "True" := by simp [PyData.shown]
theorem t_false : cs (PyData.shown (.bool false)) = cs "False" := by simp [PyData.shown]
theorem t_int (i : Int) : cs (PyData.shown (.int i)) = cs (toString i) := by simp [PyData.shown]
theorem t_str (s : Str) : cs (PyData.shown (.str s)) = cs (reprText s) := by simp [PyData.shown]
theorem c_x : cs (reprText "x") = [39, 120, 39] := by decide +kernel
theorem c_light : cs (reprText "light") = [39, 108, 105, 103, 104, 116, 39] := by decide +kernel
theorem c_0 : cs (toString (0 : Int)) = [48] := by decide +kernel
theorem c_1 : cs (toString (1 : Int)) = [49] := by decide +kernel
theorem c_2 : cs (toString (2 : Int)) = [50] := by decide +kernel
theorem c_5 : cs (toString (-5 : Int)) = [45, 53] := by decide +kernel
theorem c_big : cs (toString big) = 49 :: List.replicate 64 48 := by decide +kernel
theorem c_none : cs "None" = [78, 111, 110, 101] := by decide +kernel
theorem c_true : cs "True" = [84, 114, 117, 101] := by decide +kernel
theorem c_false : cs "False" = [70, 97, 108, 115, 101] := by decide +kernel
/-- an atom's signs, none a comma, none a bracket -/
theorem atom_text {d : PyData} (h : atomOk d = true) : NoSep (cs d.shown) ∧ (cs d.shown).head? ≠ some 40 ∧ cs d.shown ≠ [] ∧ (cs d.shown).length ≤ 65 := by
  rcases atom_cases h with h | h | h | h | h | h | h | h | h | h <;> subst h
  · rw [t_none, c_none]; unfold NoSep; decide
  · rw [t_true, c_true]; unfold NoSep; decide
  · rw [t_false, c_false]; unfold NoSep; decide
  · rw [t_int, c_0]; unfold NoSep; decide
  · rw [t_int, c_1]; unfold NoSep; decide
  · rw [t_int, c_2]; unfold NoSep; decide
  · rw [t_int, c_5]; unfold NoSep; decide
  · rw [t_int, c_big]; unfold NoSep; decide
  · rw [t_str, c_x]; unfold NoSep; decide
  · rw [t_str, c_light]; unfold NoSep; decide
theorem atom_inj {d e : PyData} (h : atomOk d = true) (h' : atomOk e = true) (q : cs d.shown = cs e.shown) : d = e := by
  rcases atom_cases h with h | h | h | h | h | h | h | h | h | h <;> subst h <;>
    rcases atom_cases h' with h | h | h | h | h | h | h | h | h | h <;> subst h <;>
    first
      | rfl
      | (exfalso; simp only [t_none, t_true, t_false, t_int, t_str, c_none, c_true, c_false, c_0, c_1, c_2, c_5, c_big, c_x, c_light] at q; revert q; decide)

/-! ### a tuple's text -/
/-- behind the first item -/
def bodyR : List (List Nat) → List Nat
  | [] => [41]
  | [x] => x ++ [41]
  | x :: y :: r => x ++ 44 :: 32 :: bodyR (y :: r)
def body : List (List Nat) → List Nat
  | [] => [41]
  | [x] => x ++ [44, 41]
  | x :: y :: r => x ++ 44 :: 32 :: bodyR (y :: r)
theorem c_comma : cs ", " = [44, 32] := by decide +kernel
theorem c_open : cs "(" = [40] := by decide +kernel
theorem c_close : cs ")" = [41] := by decide +kernel
theorem c_close1 : cs ",)" = [44, 41] := by decide +kernel
theorem cs_empty : cs Str.empty = [] := rfl
theorem join_body : ∀ (x : Str) (ts : List Str), cs (Str.join ", " (x :: ts)) ++ [41] = bodyR ((x :: ts).map cs)
  | x, [] => rfl
  | x, y :: r => by
    have ih := join_body y r
    show cs (x ++ ", " ++ Str.join ", " (y :: r)) ++ [41] = cs x ++ 44 :: 32 :: bodyR ((y :: r).map cs)
    rw [cs_app, cs_app, c_comma, ← ih]
    simp
theorem tuple_body (ts : List Str) : cs (tupleText ts) = 40 :: body (ts.map cs) := by
  unfold tupleText
  rw [cs_app, cs_app, c_open]
  cases ts with
  | nil => rw [show ((([] : List Str).length == 1)) = false from rfl]; show [40] ++ cs Str.empty ++ cs ")" = _; rw [c_close, cs_empty] <;> rfl
  | cons x r =>
    cases r with
    | nil => rw [show (([x] : List Str).length == 1) = true from rfl]; show [40] ++ cs x ++ cs ",)" = _; rw [c_close1]; simp [body]
    | cons y r =>
      rw [show ((x :: y :: r : List Str).length == 1) = false from by simp]
      show [40] ++ cs (Str.join ", " (x :: y :: r)) ++ cs ")" = _
      rw [c_close]
      have e := join_body x (y :: r)
      show [40] ++ cs (Str.join ", " (x :: y :: r)) ++ [41] = 40 :: body (cs x :: cs y :: r.map cs)
      rw [List.append_assoc, e]
      rfl
theorem shownAll_map : ∀ xs : List PyData, PyData.shownAll xs = xs.map PyData.shown
  | [] => by simp [PyData.shownAll]
  | x :: r => by rw [PyData.shownAll, shownAll_map r, List.map_cons]
theorem cs_tuple (xs : List PyData) : cs (PyData.tuple xs).shown = 40 :: body (xs.map fun x => cs x.shown) := by
  rw [PyData.shown, tuple_body, shownAll_map, List.map_map] <;> rfl

/-- what is asked of items: the text of each can be read off ahead of a tail -/
def Cut (d e : PyData) : Prop := ∀ s t, Tail s → Tail t → cs d.shown ++ s = cs e.shown ++ t → d = e ∧ s = t
theorem bodyR_cut : ∀ {xs ys : List PyData}, xs ≠ [] → ys ≠ [] → (∀ x ∈ xs, ∀ y ∈ ys, Cut x y) → ∀ s t, bodyR (xs.map fun x => cs x.shown) ++ s = bodyR (ys.map fun x => cs x.shown) ++ t → xs = ys ∧ s = t
  | [], _, h, _, _, _, _, _ => absurd rfl h
  | _, [], _, h, _, _, _, _ => absurd rfl h
  | [x], [y], _, _, hc, s, t, e => by
    have e' : cs x.shown ++ (41 :: s) = cs y.shown ++ (41 :: t) := by simpa [bodyR] using e
    obtain ⟨h1, h2⟩ := hc x (by simp) y (by simp) _ _ tail_r tail_r e'
    exact ⟨by rw [h1], (List.cons.inj h2).2⟩
  | [x], y :: y2 :: r, _, _, hc, s, t, e => by
    have e' : cs x.shown ++ (41 :: s) = cs y.shown ++ (44 :: 32 :: (bodyR ((y2 :: r).map fun x => cs x.shown) ++ t)) := by simpa [bodyR] using e
    obtain ⟨_, h2⟩ := hc x (by simp) y (by simp) _ _ tail_r tail_l e'
    exact absurd (List.cons.inj h2).1 (by decide)
  | x :: x2 :: r, [y], _, _, hc, s, t, e => by
    have e' : cs x.shown ++ (44 :: 32 :: (bodyR ((x2 :: r).map fun x => cs x.shown) ++ s)) = cs y.shown ++ (41 :: t) := by simpa [bodyR] using e
    obtain ⟨_, h2⟩ := hc x (by simp) y (by simp) _ _ tail_l tail_r e'
    exact absurd (List.cons.inj h2).1 (by decide)
  | x :: x2 :: r, y :: y2 :: r', _, _, hc, s, t, e => by
    have e' : cs x.shown ++ (44 :: 32 :: (bodyR ((x2 :: r).map fun x => cs x.shown) ++ s)) = cs y.shown ++ (44 :: 32 :: (bodyR ((y2 :: r').map fun x => cs x.shown) ++ t)) := by simpa [bodyR] using e
    obtain ⟨h1, h2⟩ := hc x (by simp) y (by simp) _ _ tail_l tail_l e'
    have h3 := (List.cons.inj (List.cons.inj h2).2).2
    obtain ⟨h4, h5⟩ := bodyR_cut (xs := x2 :: r) (ys := y2 :: r') (by simp) (by simp) (fun a ha b hb => hc a (List.mem_cons_of_mem _ ha) b (List.mem_cons_of_mem _ hb)) s t h3
    exact ⟨by rw [h1, h4], h5⟩
/-- no item's text begins with a closing sign -/
theorem body_cut {xs ys : List PyData} (hx : ∀ x ∈ xs, ∃ c r, cs x.shown = c :: r ∧ c ≠ 41) (hy : ∀ x ∈ ys, ∃ c r, cs x.shown = c :: r ∧ c ≠ 41) (hc : ∀ x ∈ xs, ∀ y ∈ ys, Cut x y) (s t : List Nat)
    (e : body (xs.map fun x => cs x.shown) ++ s = body (ys.map fun x => cs x.shown) ++ t) : xs = ys ∧ s = t := by
  have one : ∀ (zs : List PyData), zs ≠ [] → ∃ z r, z ∈ zs ∧ ∃ u, body (zs.map fun x => cs x.shown) = cs z.shown ++ u := fun zs hz => by
    match zs, hz with
    | [z], _ => exact ⟨z, (), by simp, [44, 41], rfl⟩
    | z :: z2 :: r, _ => exact ⟨z, (), by simp, _, rfl⟩
  match xs, ys, hx, hy, hc, e with
  | [], [], _, _, _, e => exact ⟨rfl, by simpa [body] using e⟩
  | [], y :: r, _, hy, _, e =>
    exfalso
    obtain ⟨z, _, hz, u, hu⟩ := one (y :: r) (by simp)
    obtain ⟨c, r', h1, h2⟩ := hy z hz
    rw [hu, h1] at e
    have e' : 41 :: s = c :: (r' ++ u ++ t) := by simpa [body] using e
    exact h2 (List.cons.inj e').1.symm
  | x :: r, [], hx, _, _, e =>
    exfalso
    obtain ⟨z, _, hz, u, hu⟩ := one (x :: r) (by simp)
    obtain ⟨c, r', h1, h2⟩ := hx z hz
    rw [hu, h1] at e
    have e' : c :: (r' ++ u ++ s) = 41 :: t := by simpa [body] using e
    exact h2 (List.cons.inj e').1
  | [x], [y], _, _, hc, e =>
    have e' : cs x.shown ++ (44 :: 41 :: s) = cs y.shown ++ (44 :: 41 :: t) := by simpa [body] using e
    obtain ⟨h1, h2⟩ := hc x (by simp) y (by simp) _ _ tail_l tail_l e'
    exact ⟨by rw [h1], (List.cons.inj (List.cons.inj h2).2).2⟩
  | [x], y :: y2 :: r, _, _, hc, e =>
    have e' : cs x.shown ++ (44 :: 41 :: s) = cs y.shown ++ (44 :: 32 :: (bodyR ((y2 :: r).map fun x => cs x.shown) ++ t)) := by simpa [body] using e
    obtain ⟨_, h2⟩ := hc x (by simp) y (by simp) _ _ tail_l tail_l e'
    exact absurd (List.cons.inj (List.cons.inj h2).2).1 (by decide)
  | x :: x2 :: r, [y], _, _, hc, e =>
    have e' : cs x.shown ++ (44 :: 32 :: (bodyR ((x2 :: r).map fun x => cs x.shown) ++ s)) = cs y.shown ++ (44 :: 41 :: t) := by simpa [body] using e
    obtain ⟨_, h2⟩ := hc x (by simp) y (by simp) _ _ tail_l tail_l e'
    exact absurd (List.cons.inj (List.cons.inj h2).2).1 (by decide)
  | x :: x2 :: r, y :: y2 :: r', _, _, hc, e =>
    have e' : cs x.shown ++ (44 :: 32 :: (bodyR ((x2 :: r).map fun x => cs x.shown) ++ s)) = cs y.shown ++ (44 :: 32 :: (bodyR ((y2 :: r').map fun x => cs x.shown) ++ t)) := by simpa [body] using e
    obtain ⟨h1, h2⟩ := hc x (by simp) y (by simp) _ _ tail_l tail_l e'
    have h3 := (List.cons.inj (List.cons.inj h2).2).2
    obtain ⟨h4, h5⟩ := bodyR_cut (xs := x2 :: r) (ys := y2 :: r') (by simp) (by simp) (fun a ha b hb => hc a (List.mem_cons_of_mem _ ha) b (List.mem_cons_of_mem _ hb)) s t h3
    exact ⟨by rw [h1, h4], h5⟩
theorem pv_first {n : Nat} {d : PyData} (h : pval n d = true) : ∃ c r, cs d.shown = c :: r ∧ c ≠ 41 := by
  rcases pv_cases h with h | ⟨m, xs, _, rfl, _, _⟩
  · obtain ⟨h1, _, h3, _⟩ := atom_text h
    cases e : cs d.shown with
    | nil => exact absurd e h3
    | cons c r => exact ⟨c, r, rfl, (h1 c (by rw [e]; exact List.mem_cons_self ..)).2⟩
  · exact ⟨40, _, cs_tuple xs, by decide⟩
theorem pv_cut : ∀ n : Nat, ∀ d e : PyData, pval n d = true → pval n e = true → Cut d e
  | n, d, e, hd, he, s, t, hs, ht, q => by
    rcases pv_cases hd with a | ⟨m, xs, rfl, rfl, lx, ax⟩
    · rcases pv_cases he with b | ⟨m, ys, _, rfl, _, _⟩
      · obtain ⟨h1, h2⟩ := sep_cut (atom_text a).1 (atom_text b).1 hs ht q
        exact ⟨atom_inj a b h1, h2⟩
      · exfalso
        obtain ⟨_, h2, h3, _⟩ := atom_text a
        cases z : cs d.shown with
        | nil => exact h3 z
        | cons c r =>
          rw [z, cs_tuple] at q
          have q' : c :: (r ++ s) = 40 :: (body (ys.map fun x => cs x.shown) ++ t) := q
          rw [z, (List.cons.inj q').1] at h2
          exact h2 rfl
    · rcases pv_cases he with b | ⟨m', ys, e1, rfl, ly, ay⟩
      · exfalso
        obtain ⟨_, h2, h3, _⟩ := atom_text b
        cases z : cs e.shown with
        | nil => exact h3 z
        | cons c r =>
          rw [z, cs_tuple] at q
          have q' : 40 :: (body (xs.map fun x => cs x.shown) ++ s) = c :: (r ++ t) := q
          rw [z, ← (List.cons.inj q').1] at h2
          exact h2 rfl
      · obtain rfl : m = m' := by omega
        rw [cs_tuple, cs_tuple] at q
        have q' : 40 :: (body (xs.map fun x => cs x.shown) ++ s) = 40 :: (body (ys.map fun x => cs x.shown) ++ t) := q
        obtain ⟨h1, h2⟩ := body_cut (fun x hx => pv_first (ax x hx)) (fun x hx => pv_first (ay x hx)) (fun x hx y hy => pv_cut m x y (ax x hx) (ay y hy)) s t (List.cons.inj q').2
        exact ⟨by rw [h1], h2⟩
/-- THE LAW OF TEXTS: equal texts, equal values -/
theorem shown_inj {n m : Nat} {d e : PyData} (hd : pval n d = true) (he : pval m e = true) (q : d.shown = e.shown) : d = e :=
  (pv_cut (max n m) d e (pv_mono hd (Nat.le_max_left ..)) (pv_mono he (Nat.le_max_right ..)) [] [] True.intro True.intro (by rw [q])).1

/-! ### likeness -/
def lik (d e : PyData) : Bool := decide (d.shown = e.shown)
theorem lik_iff {n m : Nat} {d e : PyData} (hd : pval n d = true) (he : pval m e = true) : lik d e = true ↔ d = e :=
  ⟨fun h => shown_inj hd he (of_decide_eq_true h), fun h => by rw [h]; exact decide_eq_true rfl⟩
theorem lik_self (d : PyData) : lik d d = true := decide_eq_true rfl
theorem lik_false {n m : Nat} {d e : PyData} (hd : pval n d = true) (he : pval m e = true) (h : d ≠ e) : lik d e = false := by
  cases q : lik d e with
  | false => rfl
  | true => exact absurd ((lik_iff hd he).mp q) h
theorem lik_eq {n m : Nat} {d e : PyData} (hd : pval n d = true) (he : pval m e = true) {b : Bool} (h : b = true ↔ d = e) : lik d e = b := by
  cases b with
  | true => exact (lik_iff hd he).mpr (h.mp rfl)
  | false => exact lik_false hd he fun z => by have := h.mpr z; cases this
theorem zip_all : ∀ {n : Nat} {xs ys : List PyData}, (∀ x ∈ xs, pval n x = true) → (∀ x ∈ ys, pval n x = true) → xs.length = ys.length → ((xs.zip ys).all (fun p => lik p.1 p.2) = true ↔ xs = ys)
  | n, [], [], _, _, _ => by simp
  | n, x :: xs, y :: ys, hx, hy, hl => by
    have ih := zip_all (n := n) (xs := xs) (ys := ys) (fun a ha => hx a (List.mem_cons_of_mem _ ha)) (fun a ha => hy a (List.mem_cons_of_mem _ ha)) (by simpa using hl)
    have h1 := lik_iff (hx x (List.mem_cons_self ..)) (hy y (List.mem_cons_self ..))
    rw [List.zip_cons_cons, List.all_cons, Bool.and_eq_true, h1, ih]
    exact ⟨fun ⟨a, b⟩ => by rw [a, b], fun h => ⟨(List.cons.inj h).1, (List.cons.inj h).2⟩⟩
  | n, [], _ :: _, _, _, h => by simp at h
  | n, _ :: _, [], _, _, h => by simp at h
theorem lik_tuple {n : Nat} {xs ys : List PyData} (hx : pval (n + 1) (.tuple xs) = true) (hy : pval (n + 1) (.tuple ys) = true) :
    lik (.tuple xs) (.tuple ys) = (decide (xs.length = ys.length) && (xs.zip ys).all fun p => lik p.1 p.2) := by
  refine lik_eq hx hy ?_
  have h1 := pv_tuple.mp hx
  have h2 := pv_tuple.mp hy
  rw [Bool.and_eq_true, decide_eq_true_eq]
  constructor
  · rintro ⟨a, b⟩
    rw [(zip_all h1.2 h2.2 a).mp b]
  · intro h
    cases h
    exact ⟨rfl, (zip_all h1.2 h1.2 rfl).mpr rfl⟩
/-- not both tuples, neither a truth: as == tells -/
theorem lik_eqv {n m : Nat} {d e : PyData} (hd : pval n d = true) (he : pval m e = true) (ht : ¬ ∃ xs ys, d = .tuple xs ∧ e = .tuple ys) (hb : ∀ b, d ≠ .bool b) (hc : ∀ b, e ≠ .bool b) : lik d e = PyData.eqv d e := by
  refine lik_eq hd he ?_
  have hd' := pv_cases hd
  have he' := pv_cases he
  cases d with
  | none => cases e <;> first | exact absurd rfl (hc _) | simp [PyData.eqv]
  | bool b => exact absurd rfl (hb b)
  | int i => cases e <;> first | exact absurd rfl (hc _) | simp [PyData.eqv]
  | str s => cases e <;> first | exact absurd rfl (hc _) | simp [PyData.eqv]
  | list xs => rcases hd' with h | ⟨_, _, _, h, _⟩ <;> simp [atomOk] at h
  | dict xs => rcases hd' with h | ⟨_, _, _, h, _⟩ <;> simp [atomOk] at h
  | tuple xs =>
    cases e with
    | tuple ys => exact absurd ⟨xs, ys, rfl, rfl⟩ ht
    | list ys => rcases he' with h | ⟨_, _, _, h, _⟩ <;> simp [atomOk] at h
    | dict ys => rcases he' with h | ⟨_, _, _, h, _⟩ <;> simp [atomOk] at h
    | bool b => exact absurd rfl (hc b)
    | _ => simp [PyData.eqv]
end K8
set_option Elab.async false
set_option linter.all false
set_option maxRecDepth 100000
set_option maxHeartbeats 4000000
namespace K8
open PySem
/-! ### sizes -/
theorem cs_len (s : Str) : s.length = (cs s).length := by
  show s.cps.size = s.cps.toList.length
  simp
theorem bodyR_len (B : Nat) : ∀ l : List (List Nat), (∀ u ∈ l, u.length ≤ B) → (bodyR l).length ≤ 2 + l.length * (B + 2)
  | [], _ => by simp [bodyR]
  | [x], h => by
    have := h x (by simp)
    simp [bodyR]; omega
  | x :: y :: r, h => by
    have h1 := h x (by simp)
    have ih := bodyR_len B (y :: r) (fun u hu => h u (List.mem_cons_of_mem _ hu))
    simp only [bodyR, List.length_append, List.length_cons] at ih ⊢
    have e : (r.length + 1 + 1) * (B + 2) = (r.length + 1) * (B + 2) + (B + 2) := by rw [Nat.add_mul (r.length + 1) 1, Nat.one_mul]
    omega
theorem body_len (B : Nat) : ∀ l : List (List Nat), (∀ u ∈ l, u.length ≤ B) → (body l).length ≤ 2 + l.length * (B + 2)
  | [], _ => by simp [body]
  | [x], h => by
    have := h x (by simp)
    simp [body]; omega
  | x :: y :: r, h => by
    have h1 := h x (by simp)
    have ih := bodyR_len B (y :: r) (fun u hu => h u (List.mem_cons_of_mem _ hu))
    simp only [body, List.length_append, List.length_cons] at ih ⊢
    have e : (r.length + 1 + 1) * (B + 2) = (r.length + 1) * (B + 2) + (B + 2) := by rw [Nat.add_mul (r.length + 1) 1, Nat.one_mul]
    omega
def most : Nat → Nat
  | 0 => 65
  | n + 1 => 3 + 5 * (most n + 2)
theorem most_ge : ∀ n, 65 ≤ most n
  | 0 => Nat.le_refl _
  | n + 1 => by
    have := most_ge n
    simp only [most]; omega
theorem pv_len : ∀ (n : Nat) (d : PyData), pval n d = true → (cs d.shown).length ≤ most n
  | n, d, h => by
    rcases pv_cases h with a | ⟨m, xs, rfl, rfl, l, ax⟩
    · exact Nat.le_trans (atom_text a).2.2.2 (most_ge n)
    · rw [cs_tuple, List.length_cons]
      have := body_len (most m) (xs.map fun x => cs x.shown) (fun u hu => by
        obtain ⟨x, hx, rfl⟩ := List.mem_map.mp hu
        exact pv_len m x (ax x hx))
      rw [List.length_map] at this
      have e : xs.length * (most m + 2) ≤ 5 * (most m + 2) := Nat.mul_le_mul_right _ l
      simp only [most]
      omega
theorem pv_fits {n : Nat} {d : PyData} (h : pval n d = true) (hn : n ≤ 5) : d.shown.length ≤ 1000000 := by
  rw [cs_len]
  have h1 := pv_len 5 d (pv_mono h hn)
  have h2 : most 5 ≤ 1000000 := by decide
  omega
theorem all_showable : ∀ xs : List PyData, (∀ x ∈ xs, x.showable = true) → PyData.showableAll xs = true
  | [], _ => by simp [PyData.showableAll]
  | x :: r, h => by
    rw [PyData.showableAll, h x (List.mem_cons_self ..), all_showable r fun y hy => h y (List.mem_cons_of_mem _ hy)] <;> rfl
theorem pv_showable : ∀ (n : Nat) (d : PyData), pval n d = true → d.showable = true
  | n, d, h => by
    rcases pv_cases h with a | ⟨m, xs, rfl, rfl, l, ax⟩
    · rcases atom_cases a with h | h | h | h | h | h | h | h | h | h <;> subst h <;> first | decide +kernel | simp [PyData.showable]
    · rw [PyData.showable]
      exact all_showable xs fun x hx => pv_showable m x (ax x hx)
theorem all_canLay : ∀ xs : List PyData, (∀ x ∈ xs, x.canLay0 = true) → PyData.canLayAll0 xs = true
  | [], _ => by simp [PyData.canLayAll0]
  | x :: r, h => by
    rw [PyData.canLayAll0, h x (List.mem_cons_self ..), all_canLay r fun y hy => h y (List.mem_cons_of_mem _ hy)] <;> rfl
theorem all_depth (B : Nat) : ∀ xs : List PyData, (∀ x ∈ xs, x.depth ≤ B) → PyData.depthAll xs ≤ B
  | [], _ => by simp [PyData.depthAll]
  | x :: r, h => by
    rw [PyData.depthAll]
    exact Nat.max_le.mpr ⟨h x (List.mem_cons_self ..), all_depth B r fun y hy => h y (List.mem_cons_of_mem _ hy)⟩
theorem pv_depth : ∀ (n : Nat) (d : PyData), pval n d = true → d.depth ≤ n + 1
  | n, d, h => by
    rcases pv_cases h with a | ⟨m, xs, rfl, rfl, l, ax⟩
    · rcases atom_cases a with h | h | h | h | h | h | h | h | h | h <;> subst h <;> simp [PyData.depth]
    · rw [PyData.depth]
      have := all_depth (m + 1) xs fun x hx => pv_depth m x (ax x hx)
      omega
theorem pv_shaped {n : Nat} {d : PyData} (h : pval n d = true) (hn : n ≤ 60) : SeqAt.shaped d = true := by
  have key : ∀ (n : Nat) (d : PyData), pval n d = true → d.canLay0 = true := by
    intro n
    induction n with
    | zero =>
      intro d h
      rcases atom_cases h with h | h | h | h | h | h | h | h | h | h <;> subst h <;> first | decide +kernel | simp [PyData.canLay0]
    | succ n ih =>
      intro d h
      rcases pv_cases h with a | ⟨m, xs, e, rfl, l, ax⟩
      · exact ih d (pv_atom a)
      · obtain rfl : n = m := by omega
        rw [PyData.canLay0]
        exact all_canLay xs fun x hx => ih x (ax x hx)
  unfold SeqAt.shaped
  rw [key n d h, Bool.true_and]
  have := pv_depth n d h
  exact decide_eq_true (by omega)
/-! ### lists to tuples -/
mutual
def fx : PyData → PyData
  | .list xs => .tuple (fxAll xs)
  | .tuple xs => .tuple (fxAll xs)
  | .none => .none
  | .bool b => .bool b
  | .int i => .int i
  | .str s => .str s
  | .dict k => .dict k
def fxAll : List PyData → List PyData
  | [] => []
  | x :: r => fx x :: fxAll r
end
theorem fxAll_map : ∀ xs : List PyData, fxAll xs = xs.map fx
  | [] => by simp [fxAll]
  | x :: r => by rw [fxAll, fxAll_map r, List.map_cons]
theorem fx_list (xs : List PyData) : fx (.list xs) = .tuple (xs.map fx) := by rw [fx, fxAll_map]
theorem fx_tuple (xs : List PyData) : fx (.tuple xs) = .tuple (xs.map fx) := by rw [fx, fxAll_map]
/-- the pair (1, 2) -/
abbrev pair12 : PyData := .tuple [.int 1, .int 2]
/-- what the law draws, n deep -/
inductive LV : Nat → PyData → Prop where
  | atom {n : Nat} {d : PyData} (h : atomOk d = true) : LV n d
  | pair {n : Nat} : LV n pair12
  | list {n : Nat} {xs : List PyData} (l : xs.length ≤ 5) (h : ∀ x ∈ xs, LV n x) : LV (n + 1) (.list xs)
theorem fx_atom {d : PyData} (h : atomOk d = true) : fx d = d := by
  cases d <;> first | (simp only [fx]; done) | (simp [atomOk] at h; done)
theorem pv_pair {n : Nat} : pval (n + 1) pair12 = true := pv_tuple.mpr ⟨by decide, fun x hx => by
  rcases List.mem_cons.mp hx with h | h
  · subst h; exact pv_atom (by decide)
  · obtain rfl := List.mem_singleton.mp h; exact pv_atom (by decide)⟩
theorem fx_pair : fx pair12 = pair12 := by
  show fx (.tuple [.int 1, .int 2]) = _
  rw [fx_tuple]
  simp only [List.map_cons, List.map_nil, fx]
theorem fx_lv {n : Nat} {d : PyData} (h : LV n d) : pval (n + 1) (fx d) = true := by
  induction h with
  | atom h => rw [fx_atom h]; exact pv_atom h
  | pair => rw [fx_pair]; exact pv_pair
  | list l h ih =>
    rw [fx_list]
    refine pv_tuple.mpr ⟨by rw [List.length_map]; exact l, fun x hx => ?_⟩
    obtain ⟨y, hy, rfl⟩ := List.mem_map.mp hx
    exact ih y hy
theorem LV.succ {n : Nat} {d : PyData} (h : LV n d) : LV (n + 1) d := by
  induction h with
  | atom h => exact .atom h
  | pair => exact .pair
  | list l h ih => exact .list l fun x hx => ih x hx
/-- turned once, it stays -/
theorem fx_pv : ∀ (n : Nat) (d : PyData), pval n d = true → fx d = d
  | n, d, h => by
    rcases pv_cases h with a | ⟨m, xs, rfl, rfl, l, ax⟩
    · exact fx_atom a
    · rw [fx_tuple]
      have e : xs.map fx = xs.map id := List.map_congr_left fun x hx => fx_pv m x (ax x hx)
      rw [e, List.map_id]
end K8
set_option Elab.async false
set_option linter.all false
set_option maxRecDepth 100000
set_option maxHeartbeats 4000000
namespace K8
open PySem PySem.Spec PyProof.Rows L2
/-! ### data over a growing heap -/
section
variable {K : PySem.W.Frag} {H H' : Hp}
theorem rd_same {a : Addr} {u : HO} (e : Same H H') (h : Rd H a u) : Rd H' a u := by
  rcases h with h | ⟨o, h⟩
  · exact .inl (e _ _ h)
  · exact .inr ⟨o, e _ _ h⟩
theorem sqt_same {a : Addr} {xs : List V} (e : Same H H') (h : SqT K H a xs) : SqT K H' a xs := by
  rcases h with h | h
  · exact .inl (rd_same e h)
  · exact .inr h
theorem dp_same_both (e : Same H H') : ∀ n : Nat, (∀ (v : V) (d : PyData), sizeOf d ≤ n → Dp K H v d → Dp K H' v d) ∧ ∀ (vs : List V) (ds : List PyData), sizeOf ds ≤ n → DpAll K H vs ds → DpAll K H' vs ds := by
  intro n
  induction n with
  | zero =>
    refine ⟨fun v d h _ => ?_, fun vs ds h _ => ?_⟩
    · cases d <;> simp at h
    · cases ds <;> simp at h
  | succ n ih =>
    have ih1 := ih.1
    have ih2 := ih.2
    refine ⟨fun v d h x => ?_, fun vs ds h x => ?_⟩
    · cases x with
      | non => exact .non
      | bl b => exact .bl b
      | int i => exact .int i
      | str s => exact .str s
      | lst q a => exact .lst (Same.seq e q) (ih2 _ _ (by simp at h; omega) a)
      | tup q a => exact .tup (sqt_same e q) (ih2 _ _ (by simp at h; omega) a)
    · cases x with
      | nil => exact .nil
      | cons a b =>
        simp at h
        exact .cons (ih1 _ _ (by omega) a) (ih2 _ _ (by omega) b)
theorem dp_same {v : V} {d : PyData} (e : Same H H') (x : Dp K H v d) : Dp K H' v d := (dp_same_both e _).1 v d (Nat.le_refl _) x
theorem dpa_same {vs : List V} {ds : List PyData} (e : Same H H') (x : DpAll K H vs ds) : DpAll K H' vs ds := (dp_same_both e _).2 vs ds (Nat.le_refl _) x
theorem dpa_len : ∀ {vs : List V} {ds : List PyData}, DpAll K H vs ds → vs.length = ds.length
  | _, _, .nil => rfl
  | _, _, .cons _ t => by rw [List.length_cons, List.length_cons, dpa_len t]
theorem dpa_get : ∀ {vs : List V} {ds : List PyData} {i : Nat} {v : V}, DpAll K H vs ds → vs[i]? = some v → ∃ d, ds[i]? = some d ∧ Dp K H v d
  | _, _, _, _, .nil, e => by simp at e
  | _, _, 0, _, .cons r _, e => by simp at e; subst e; exact ⟨_, rfl, r⟩
  | _, _, i + 1, _, .cons _ t, e => by
    obtain ⟨d, h1, h2⟩ := dpa_get (i := i) t (by simpa using e)
    exact ⟨d, by simpa using h1, h2⟩
theorem dpa_get' : ∀ {vs : List V} {ds : List PyData} {i : Nat} {d : PyData}, DpAll K H vs ds → ds[i]? = some d → ∃ v, vs[i]? = some v ∧ Dp K H v d
  | _, _, _, _, .nil, e => by simp at e
  | _, _, 0, _, .cons r _, e => by simp at e; subst e; exact ⟨_, rfl, r⟩
  | _, _, i + 1, _, .cons _ t, e => by
    obtain ⟨d, h1, h2⟩ := dpa_get' (i := i) t (by simpa using e)
    exact ⟨d, by simpa using h1, h2⟩
theorem dpa_snoc : ∀ {vs : List V} {ds : List PyData} {v : V} {d : PyData}, DpAll K H vs ds → Dp K H v d → DpAll K H (vs ++ [v]) (ds ++ [d])
  | _, _, _, _, .nil, h => .cons h .nil
  | _, _, _, _, .cons a b, h => .cons a (dpa_snoc b h)
theorem dpa_append : ∀ {vs ws : List V} {ds es : List PyData}, DpAll K H vs ds → DpAll K H ws es → DpAll K H (vs ++ ws) (ds ++ es)
  | _, _, _, _, .nil, h => h
  | _, _, _, _, .cons a b, h => .cons a (dpa_append b h)
theorem dpa_take : ∀ {vs : List V} {ds : List PyData} (n : Nat), DpAll K H vs ds → DpAll K H (vs.take n) (ds.take n)
  | _, _, 0, _ => .nil
  | _, _, _ + 1, .nil => .nil
  | _, _, n + 1, .cons a b => .cons a (dpa_take n b)
theorem dpa_drop : ∀ {vs : List V} {ds : List PyData} (n : Nat), DpAll K H vs ds → DpAll K H (vs.drop n) (ds.drop n)
  | _, _, 0, h => h
  | _, _, _ + 1, .nil => .nil
  | _, _, n + 1, .cons a b => dpa_drop n b
theorem same_upd {p : Addr} {o : HO} (h : H p = none) : Same H (upd H p o) := fun b u e => by
  rw [upd_ne (ne_of_none e h)]
  exact e
theorem same_upd' {H0 : Hp} {p : Addr} {o : HO} (s : Same H0 H) (h : H p = none) : Same H0 (upd H p o) := s.trans (same_upd h)
theorem ty_list {a : Addr} {xs : List V} (h : SqL K H a xs) : TyX K H (.ref a) (.type "list") := by
  rcases h with h | ⟨o, its, n, hk, hc, _⟩
  · rcases h with h | ⟨o, h⟩
    · exact .base (.lst h)
    · exact .base (.frz h)
  · exact .kList hk hc
theorem ty_tup {a : Addr} {xs : List V} (h : SqT K H a xs) : TyX K H (.ref a) (.type "tuple") := by
  rcases h with h | ⟨o, its, n, hk, hc, _⟩
  · rcases h with h | ⟨o, h⟩
    · exact .base (.tup h)
    · exact .fTuple h
  · exact .kTuple hk hc
/-- the class of a value of data -/
def tyD : PyData → Value
  | .none => .type "NoneType"
  | .bool _ => .type "bool"
  | .int _ => .type "int"
  | .str _ => .type "str"
  | .list _ => .type "list"
  | .tuple _ => .type "tuple"
  | .dict _ => .type "dict"
theorem ty_dp {v : V} {d : PyData} (h : Dp K H v d) : TyX K H v (tyD d) := by
  cases h with
  | non => exact .base .non
  | bl b => exact .base (.bl b)
  | int i => exact .base (.int i)
  | str s => exact .base (.str s)
  | lst q _ => exact ty_list q
  | tup q _ => exact ty_tup q
def isSeq : PyData → Bool
  | .list _ => true
  | .tuple _ => true
  | _ => false
def isTupD : PyData → Bool
  | .tuple _ => true
  | _ => false
def isBoolD : PyData → Bool
  | .bool _ => true
  | _ => false
def noDct : PyData → Bool
  | .dict _ => false
  | _ => true
theorem kit_seq {d : PyData} (h : noDct d = true) : PySem.W.kitAny K (tyD d) [.type "list", .type "tuple"] = some (isSeq d) := by
  cases d <;> first | rfl | kernel_rfl | (cases h)
theorem kit_tup {d : PyData} (h : noDct d = true) : PySem.W.kitOne K (tyD d) (.type "tuple") = some (isTupD d) := by
  cases d <;> first | rfl | kernel_rfl | (cases h)
theorem kit_bool {d : PyData} (h : noDct d = true) : PySem.W.kitOne K (tyD d) (.type "bool") = some (isBoolD d) := by
  cases d <;> first | rfl | kernel_rfl | (cases h)
theorem dp_noDct {v : V} {d : PyData} (h : Dp K H v d) : noDct d = true := by
  cases h <;> rfl
end
/-! ### what is new -/
/-- the objects of H' that H has not -/
def nw (H H' : Hp) : Hp := fun b => match H b with
  | none => H' b
  | some _ => none
/-- .. but for one that is still being filled -/
def nwx (D : Addr) (H H' : Hp) : Hp := fun b => if b = D then none else nw H H' b
section
variable {K : PySem.W.Frag} {H H1 H' H'' : Hp} {D : Addr}
theorem nw_at {b : Addr} (h : H b = none) : nw H H' b = H' b := by
  unfold nw
  rw [h]
theorem nw_get {b : Addr} {o : HO} (h : nw H H' b = some o) : H b = none ∧ H' b = some o := by
  unfold nw at h
  cases q : H b with
  | none => rw [q] at h; exact ⟨rfl, h⟩
  | some u => rw [q] at h; cases h
theorem nw_le : Same (nw H H') H' := fun b o e => (nw_get e).2
theorem nw_grow (s : Same H' H'') : Same (nw H H') (nw H H'') := fun b o e => by
  obtain ⟨h1, h2⟩ := nw_get e
  rw [nw_at h1]
  exact s _ _ h2
theorem nw_sub (s : Same H H1) : Same (nw H1 H') (nw H H') := fun b o e => by
  obtain ⟨h1, h2⟩ := nw_get e
  rw [nw_at (s.free h1)]
  exact h2
theorem nwx_le : Same (nwx D H H') (nw H H') := fun b o e => by
  unfold nwx at e
  split at e
  · cases e
  · exact e
theorem nwx_at {b : Addr} (h : b ≠ D) : nwx D H H' b = nw H H' b := if_neg h
theorem nwx_grow (s : ∀ b o, b ≠ D → H' b = some o → H'' b = some o) : Same (nwx D H H') (nwx D H H'') := fun b o e => by
  by_cases hb : b = D
  · subst hb
    unfold nwx at e
    rw [if_pos rfl] at e
    cases e
  · rw [nwx_at hb] at e ⊢
    obtain ⟨h1, h2⟩ := nw_get e
    rw [nw_at h1]
    exact s _ _ hb h2
/-- what is new to a heap that has D lies apart from D -/
theorem nw_nwx {o : HO} (hD : H1 D = some o) (s : Same H H1) : Same (nw H1 H') (nwx D H H') := fun b u e => by
  obtain ⟨h1, h2⟩ := nw_get e
  have hb : b ≠ D := fun z => by rw [z, hD] at h1; cases h1
  rw [nwx_at hb, nw_at (s.free h1)]
  exact h2
/-- a list that a comprehension fills with new data: H the heap ahead, D the list -/
def Fill (K : PySem.W.Frag) (H : Hp) (D : Addr) (ds : List PyData) (H' : Hp) : Prop := Same H H' ∧ ∃ acc, H' D = some (.lst acc) ∧ DpAll K (nwx D H H') acc ds
theorem Fill.nil (h : H D = none) : Fill K H D [] (upd H D (.lst [])) := ⟨same_upd h, [], upd_same, .nil⟩
theorem Fill.put {ds : List PyData} {v : V} {d : PyData} (f : Fill K H D ds H1) (hD : H D = none) (s : Same H1 H') (hv : Dp K (nw H1 H') v d) : ∃ acc, H' D = some (.lst acc) ∧ acc.length = ds.length ∧ Fill K H D (ds ++ [d]) (upd H' D (.lst (acc ++ [v]))) := by
  obtain ⟨s1, acc, e, a⟩ := f
  have g1 : Same (nwx D H H1) (nwx D H (upd H' D (.lst (acc ++ [v])))) := nwx_grow fun b o hb e => by rw [upd_ne hb]; exact s _ _ e
  have g2 : Same (nw H1 H') (nwx D H (upd H' D (.lst (acc ++ [v])))) := (nw_nwx e s1).trans (nwx_grow fun b o hb e => by rw [upd_ne hb]; exact e)
  refine ⟨acc, s _ _ e, dpa_len a, fun b o z => ?_, acc ++ [v], upd_same, dpa_snoc (dpa_same g1 a) (dp_same g2 hv)⟩
  rw [upd_ne (ne_of_none z hD)]
  exact s _ _ (s1 _ _ z)
theorem dp_leaf {v : V} {d : PyData} (h : isSeq d = false) (x : Dp K H v d) : Dp K H' v d := by
  cases x with
  | non => exact .non
  | bl b => exact .bl b
  | int i => exact .int i
  | str s => exact .str s
  | lst _ _ => cases h
  | tup _ _ => cases h
end
/-- data of small lists, n deep -/
inductive SD : Nat → PyData → Prop where
  | leaf {n : Nat} {d : PyData} (h : isSeq d = false) : SD n d
  | list {n : Nat} {xs : List PyData} (l : xs.length ≤ 20) (h : ∀ x ∈ xs, SD n x) : SD (n + 1) (.list xs)
  | tuple {n : Nat} {xs : List PyData} (l : xs.length ≤ 20) (h : ∀ x ∈ xs, SD n x) : SD (n + 1) (.tuple xs)
theorem SD.succ {n : Nat} {d : PyData} (h : SD n d) : SD (n + 1) d := by
  induction h with
  | leaf h => exact .leaf h
  | list l h ih => exact .list l ih
  | tuple l h ih => exact .tuple l ih
theorem sd_pv : ∀ (n : Nat) (d : PyData), pval n d = true → SD n d
  | n, d, h => by
    rcases pv_cases h with a | ⟨m, xs, rfl, rfl, l, ax⟩
    · refine .leaf ?_
      rcases atom_cases a with h | h | h | h | h | h | h | h | h | h <;> subst h <;> rfl
    · exact .tuple (by omega) fun x hx => sd_pv m x (ax x hx)
theorem sd_lv {n : Nat} {d : PyData} (h : LV n d) : SD (n + 1) d := by
  induction h with
  | atom h => exact sd_pv _ _ (pv_atom h)
  | pair => exact sd_pv _ _ pv_pair
  | list l h ih => exact .list (by omega) fun x hx => ih x hx
theorem fx_leaf {d : PyData} (h : isSeq d = false) : fx d = d := by
  cases d <;> first | (simp only [fx]; done) | (cases h)
end K8
set_option Elab.async false
set_option linter.all false
set_option maxRecDepth 100000
set_option maxHeartbeats 4000000
namespace K8
open PySem PySem.Spec PyProof.Rows L2
/-! ### the text by places -/
def top (i : Nat) : Stmt := PySem.Challenge.pw_crowdsplit_k88_papers_are_values_of_thei.main.body.getD i (.Pass ⟨0, 0, 0, 0⟩)
abbrev sFixed : Stmt := top 21
abbrev sLFixed : Stmt := top 45
/-- a def of the top, as it stands -/
abbrev FnP (K : PySem.W.Frag) (x q : Str) (st : Stmt) (f : Addr) (fd : FuncData) : Prop := FunD K x q (defArgs st) (defBody st) (defScope st) [] [] f fd
/-- the built-in names that the text leaves alone -/
structure Blt (mg : Str → Option Value) : Prop where
  isinstance : mg "isinstance" = none
  list : mg "list" = none
  tuple : mg "tuple" = none
  len : mg "len" = none
  all : mg "all" = none
  zip : mg "zip" = none
  bool : mg "bool" = none
  int : mg "int" = none
  abs : mg "abs" = none
  repr : mg "repr" = none
  range : mg "range" = none
  ValueError : mg "ValueError" = none
/-- lists to tuples, all the way in: the answer is made of new objects -/
def spFix (K : PySem.W.Frag) (n : Nat) : Sp := fun vs H Q _ => ∃ (v : V) (d : PyData), vs = [v] ∧ Dp K H v d ∧ SD n d ∧ ∀ (v' : V) (H' : Hp), Same H H' → Dp K (nw H H') v' (fx d) → Q v' H'
section
variable {P : Program} {w : World} {K : PySem.W.Frag} {mg : Str → Option Value} {base : Heap}
/-- the end of both defs: the filled list made a tuple -/
theorem fix_end {H Hf : Hp} {D p : Addr} {ds : List PyData} {Q : VK} (f : Fill K H D ds Hf) (hp : Hf p = none) (k : ∀ (v' : V) (H' : Hp), Same H H' → Dp K (nw H H') v' (.tuple ds) → Q v' H') {acc : List V} (e : Hf D = some (.lst acc)) : Q (.ref p) (upd Hf p (.tup acc)) := by
  obtain ⟨s, acc', e', a⟩ := f
  have e2 : HO.lst acc = HO.lst acc' := Option.some.inj (e.symm.trans e')
  injection e2 with e2
  subst e2
  refine k _ _ (same_upd' s hp) (.tup (SqT.of ?_) (dpa_same (nwx_le.trans (nw_grow (same_upd hp))) a))
  rw [nw_at (s.free hp), upd_same]
theorem take_snoc {ds : List PyData} {i : Nat} {d : PyData} (hd : ds[i]? = some d) : (ds.take (i + 1)).map fx = (ds.take i).map fx ++ [fx d] := by
  rw [List.take_add_one, hd, List.map_append] <;> rfl
/-- an expression that is never reached -/
theorem pe_never {X : Cx} {e : Expr} : PE X e (fun _ _ _ => False) := ⟨fun _ _ _ _ _ _ h => h.elim⟩
theorem scFixed : FnScope ["value", "one"] ["value"] (defScope sFixed) := ⟨rfl, rfl, rfl, by decide +kernel, rfl, by decide +kernel, by decide +kernel⟩
theorem ok_fixed {f : Addr} {fd : FuncData} (F : FnP K "fixed" "fixed" sFixed f fd) (T : Blt mg) (mgF : mg "fixed" = some (.ref f)) : ∀ n : Nat, FnOk P w K mg base CX0 (n + 1) f fd ["value"] (spFix K n) := by
  have b : Binds K fd ["value"] [] := F.bindsN fun _ _ _ _ _ _ us hl => match us, hl with | [_], _ => rfl
  intro n
  induction n with
  | zero =>
    refine F.ok scFixed (fun vs H Q E h => ?_) (fun cdv A outer s H vs Q E hr h => ?_)
    · obtain ⟨v, d, rfl, _⟩ := h
      rfl
    · obtain ⟨v, d, rfl, hv, sd, k⟩ := h
      have hd : isSeq d = false := by
        cases sd with
        | leaf hd => exact hd
      refine ⟨_, PSs.nox (pss_cons (ps_if (pt_val (pe_callB call_isiT (by rfl) T.isinstance (by decide +kernel) (pa_cons (pv 0) (pa_cons (pe_tup (pa_cons (pe_bltn (v := .ty "list") (by rfl) T.list (by decide +kernel) rfl) (pa_cons (pe_bltn (v := .ty "tuple") (by rfl) T.tuple (by decide +kernel) rfl) pa_nil))) pa_nil)))) (pss_one ps_never) pss_nil) (pss_one (ps_ret (pv 0)))), ?_⟩
      refine ⟨_, rfl, by show 2 ≤ sizeLine; decide, fun p hp => ?_⟩
      refine ⟨v, p, _, tyD d, _, isSeq d, rfl, upd_same, .cons (.ty "list") (.cons (.ty "tuple") .nil), ty_dp (dp_same (same_upd hp) hv), kit_seq (dp_noDct hv), isSeq d, rfl, ?_⟩
      rw [hd]
      refine iteF ⟨_, rfl, ?_⟩
      exact k v _ (same_upd hp) (by rw [fx_leaf hd]; exact dp_leaf hd hv)
  | succ n ih =>
    refine F.ok scFixed (fun vs H Q E h => ?_) (fun cdv A outer s H vs Q E hr h => ?_)
    · obtain ⟨v, d, rfl, _⟩ := h
      rfl
    · obtain ⟨v, d, rfl, hv, sd, k⟩ := h
      cases sd with
      | leaf hd =>
        refine ⟨_, PSs.nox (pss_cons (ps_if (pt_val (pe_callB call_isiT (by rfl) T.isinstance (by decide +kernel) (pa_cons (pv 0) (pa_cons (pe_tup (pa_cons (pe_bltn (v := .ty "list") (by rfl) T.list (by decide +kernel) rfl) (pa_cons (pe_bltn (v := .ty "tuple") (by rfl) T.tuple (by decide +kernel) rfl) pa_nil))) pa_nil)))) (pss_one ps_never) pss_nil) (pss_one (ps_ret (pv 0)))), ?_⟩
        refine ⟨_, rfl, by show 2 ≤ sizeLine; decide, fun p hp => ?_⟩
        refine ⟨v, p, _, tyD d, _, isSeq d, rfl, upd_same, .cons (.ty "list") (.cons (.ty "tuple") .nil), ty_dp (dp_same (same_upd hp) hv), kit_seq (dp_noDct hv), isSeq d, rfl, ?_⟩
        rw [hd]
        refine iteF ⟨_, rfl, ?_⟩
        exact k v _ (same_upd hp) (by rw [fx_leaf hd]; exact dp_leaf hd hv)
      | @list _ ds l hs =>
        cases hv with
        | @lst a xs _ q al =>
          refine ⟨_, PSs.nox (pss_cons (ps_if (pt_val (pe_callB call_isiT (by rfl) T.isinstance (by decide +kernel) (pa_cons (pv 0) (pa_cons (pe_tup (pa_cons (pe_bltn (v := .ty "list") (by rfl) T.list (by decide +kernel) rfl) (pa_cons (pe_bltn (v := .ty "tuple") (by rfl) T.tuple (by decide +kernel) rfl) pa_nil))) pa_nil)))) (pss_one (ps_ret (pe_callTy call_tuple_of (by rfl) T.tuple (by decide +kernel) (pa_cons (pe_lc (own := [("one", 1)]) (g := gName 1) (tt := tYes) rfl scFixed.nd (pi_list (pv 0)) (blkOk_by (N := ["value", "one"]) (sc := defScope sFixed) (by decide +kernel)) (fun _ _ _ _ _ => pg_name (i := 1) scFixed.nd rfl (Or.inl rfl)) (fun _ _ _ _ _ => pts_nil)
            (fun _ _ _ _ _ => pe_call ih hr (by rfl) mgF F.kp b .nil pass0 (pa_cons (pv 1) pa_nil))) pa_nil)))) pss_nil) (pss_one (ps_ret (pv 0)))), ?_⟩
          refine ⟨_, rfl, by show 2 ≤ sizeLine; decide, fun p hp => ?_⟩
          refine ⟨_, p, _, .type "list", _, true, rfl, upd_same, .cons (.ty "list") (.cons (.ty "tuple") .nil), ty_list (Same.seq (same_upd hp) q), kit_seq (d := .list ds) rfl, true, rfl, ?_⟩
          refine iteT ⟨_, rfl, a, rfl, ⟨_, Same.seq (same_upd hp) q⟩, fun D hD => ?_⟩
          refine lc_list (xs := xs) (fun i H' => Fill K (upd H p (.tup [.ty "list", .ty "tuple"])) D ((ds.take i).map fx) H') (Fill.nil hD) (fun i H' _ f => Same.seq ((same_upd hp).trans f.1) q) (fun i x H' hx f => ?_) (fun Hf f => ?_)
          · obtain ⟨d, hd, hxd⟩ := dpa_get al hx
            refine ⟨rfl, _, rfl, x, d, rfl, dp_same ((same_upd hp).trans f.1) hxd, hs d (List.mem_of_getElem? hd), fun v' H'' s' hv' => ?_⟩
            obtain ⟨acc, e1, e2, f2⟩ := f.put hD s' hv'
            refine ⟨acc, e1, ?_, by rw [take_snoc hd]; exact f2⟩
            rw [e2, List.length_map, sizeLine_eq, List.length_take]
            omega
          · obtain ⟨acc, e1, a1⟩ := f.2
            refine ⟨D, acc, rfl, .inl ⟨SqL.of e1, fun t ht => fix_end (K := K) (H := upd H p (.tup [.ty "list", .ty "tuple"])) (D := D) (Q := Q) (ds := ds.map fx) ?_ ht (fun v' H' s' hv' => ?_) e1⟩⟩
            · rw [List.take_of_length_le (by rw [dpa_len al] <;> exact Nat.le_refl _)] at f
              exact f
            · exact k v' H' ((same_upd hp).trans s') (by rw [fx_list]; exact dp_same (nw_sub (same_upd hp)) hv')
      | @tuple _ ds l hs =>
        cases hv with
        | @tup a xs _ q al =>
          refine ⟨_, PSs.nox (pss_cons (ps_if (pt_val (pe_callB call_isiT (by rfl) T.isinstance (by decide +kernel) (pa_cons (pv 0) (pa_cons (pe_tup (pa_cons (pe_bltn (v := .ty "list") (by rfl) T.list (by decide +kernel) rfl) (pa_cons (pe_bltn (v := .ty "tuple") (by rfl) T.tuple (by decide +kernel) rfl) pa_nil))) pa_nil)))) (pss_one (ps_ret (pe_callTy call_tuple_of (by rfl) T.tuple (by decide +kernel) (pa_cons (pe_lc (own := [("one", 1)]) (g := gName 1) (tt := tYes) rfl scFixed.nd (pi_tup (pv 0)) (blkOk_by (N := ["value", "one"]) (sc := defScope sFixed) (by decide +kernel)) (fun _ _ _ _ _ => pg_name (i := 1) scFixed.nd rfl (Or.inl rfl)) (fun _ _ _ _ _ => pts_nil)
            (fun _ _ _ _ _ => pe_call ih hr (by rfl) mgF F.kp b .nil pass0 (pa_cons (pv 1) pa_nil))) pa_nil)))) pss_nil) (pss_one (ps_ret (pv 0)))), ?_⟩
          refine ⟨_, rfl, by show 2 ≤ sizeLine; decide, fun p hp => ?_⟩
          refine ⟨_, p, _, .type "tuple", _, true, rfl, upd_same, .cons (.ty "list") (.cons (.ty "tuple") .nil), ty_tup (sqt_same (same_upd hp) q), kit_seq (d := .tuple ds) rfl, true, rfl, ?_⟩
          refine iteT ⟨_, rfl, a, rfl, ⟨_, sqt_same (same_upd hp) q⟩, fun D hD => ?_⟩
          refine lc_tup (xs := xs) (fun i H' => Fill K (upd H p (.tup [.ty "list", .ty "tuple"])) D ((ds.take i).map fx) H') (Fill.nil hD) (fun i H' _ f => sqt_same ((same_upd hp).trans f.1) q) (fun i x H' hx f => ?_) (fun Hf f => ?_)
          · obtain ⟨d, hd, hxd⟩ := dpa_get al hx
            refine ⟨rfl, _, rfl, x, d, rfl, dp_same ((same_upd hp).trans f.1) hxd, hs d (List.mem_of_getElem? hd), fun v' H'' s' hv' => ?_⟩
            obtain ⟨acc, e1, e2, f2⟩ := f.put hD s' hv'
            refine ⟨acc, e1, ?_, by rw [take_snoc hd]; exact f2⟩
            rw [e2, List.length_map, sizeLine_eq, List.length_take]
            omega
          · obtain ⟨acc, e1, a1⟩ := f.2
            refine ⟨D, acc, rfl, .inl ⟨SqL.of e1, fun t ht => fix_end (K := K) (H := upd H p (.tup [.ty "list", .ty "tuple"])) (D := D) (Q := Q) (ds := ds.map fx) ?_ ht (fun v' H' s' hv' => ?_) e1⟩⟩
            · rw [List.take_of_length_le (by rw [dpa_len al] <;> exact Nat.le_refl _)] at f
              exact f
            · exact k v' H' ((same_upd hp).trans s') (by rw [fx_tuple]; exact dp_same (nw_sub (same_upd hp)) hv')
theorem scLFixed : FnScope ["value", "one"] ["value"] (defScope sLFixed) := ⟨rfl, rfl, rfl, by decide +kernel, rfl, by decide +kernel, by decide +kernel⟩
theorem ok_lfixed {f : Addr} {fd : FuncData} (F : FnP K "_law_fixed" "_law_fixed" sLFixed f fd) (T : Blt mg) (mgF : mg "_law_fixed" = some (.ref f)) : ∀ n : Nat, FnOk P w K mg base CX0 (n + 1) f fd ["value"] (spFix K n) := by
  have b : Binds K fd ["value"] [] := F.bindsN fun _ _ _ _ _ _ us hl => match us, hl with | [_], _ => rfl
  intro n
  induction n with
  | zero =>
    refine F.ok scLFixed (fun vs H Q E h => ?_) (fun cdv A outer s H vs Q E hr h => ?_)
    · obtain ⟨v, d, rfl, _⟩ := h
      rfl
    · obtain ⟨v, d, rfl, hv, sd, k⟩ := h
      have hd : isSeq d = false := by
        cases sd with
        | leaf hd => exact hd
      refine ⟨_, PSs.nox (pss_one (ps_ret (pe_ifExp (pt_val (pe_callB call_isiT (by rfl) T.isinstance (by decide +kernel) (pa_cons (pv 0) (pa_cons (pe_tup (pa_cons (pe_bltn (v := .ty "list") (by rfl) T.list (by decide +kernel) rfl) (pa_cons (pe_bltn (v := .ty "tuple") (by rfl) T.tuple (by decide +kernel) rfl) pa_nil))) pa_nil)))) pe_never (pv 0)))), ?_⟩
      refine ⟨_, rfl, by show 2 ≤ sizeLine; decide, fun p hp => ?_⟩
      refine ⟨v, p, _, tyD d, _, isSeq d, rfl, upd_same, .cons (.ty "list") (.cons (.ty "tuple") .nil), ty_dp (dp_same (same_upd hp) hv), kit_seq (dp_noDct hv), isSeq d, rfl, ?_⟩
      rw [hd]
      refine iteF ⟨_, rfl, ?_⟩
      exact k v _ (same_upd hp) (by rw [fx_leaf hd]; exact dp_leaf hd hv)
  | succ n ih =>
    refine F.ok scLFixed (fun vs H Q E h => ?_) (fun cdv A outer s H vs Q E hr h => ?_)
    · obtain ⟨v, d, rfl, _⟩ := h
      rfl
    · obtain ⟨v, d, rfl, hv, sd, k⟩ := h
      cases sd with
      | leaf hd =>
        refine ⟨_, PSs.nox (pss_one (ps_ret (pe_ifExp (pt_val (pe_callB call_isiT (by rfl) T.isinstance (by decide +kernel) (pa_cons (pv 0) (pa_cons (pe_tup (pa_cons (pe_bltn (v := .ty "list") (by rfl) T.list (by decide +kernel) rfl) (pa_cons (pe_bltn (v := .ty "tuple") (by rfl) T.tuple (by decide +kernel) rfl) pa_nil))) pa_nil)))) pe_never (pv 0)))), ?_⟩
        refine ⟨_, rfl, by show 2 ≤ sizeLine; decide, fun p hp => ?_⟩
        refine ⟨v, p, _, tyD d, _, isSeq d, rfl, upd_same, .cons (.ty "list") (.cons (.ty "tuple") .nil), ty_dp (dp_same (same_upd hp) hv), kit_seq (dp_noDct hv), isSeq d, rfl, ?_⟩
        rw [hd]
        refine iteF ⟨_, rfl, ?_⟩
        exact k v _ (same_upd hp) (by rw [fx_leaf hd]; exact dp_leaf hd hv)
      | @list _ ds l hs =>
        cases hv with
        | @lst a xs _ q al =>
          refine ⟨_, PSs.nox (pss_one (ps_ret (pe_ifExp (pt_val (pe_callB call_isiT (by rfl) T.isinstance (by decide +kernel) (pa_cons (pv 0) (pa_cons (pe_tup (pa_cons (pe_bltn (v := .ty "list") (by rfl) T.list (by decide +kernel) rfl) (pa_cons (pe_bltn (v := .ty "tuple") (by rfl) T.tuple (by decide +kernel) rfl) pa_nil))) pa_nil)))) (pe_callTy call_tuple_of (by rfl) T.tuple (by decide +kernel) (pa_cons (pe_lc (own := [("one", 1)]) (g := gName 1) (tt := tYes) rfl scLFixed.nd (pi_list (pv 0)) (blkOk_by (N := ["value", "one"]) (sc := defScope sLFixed) (by decide +kernel)) (fun _ _ _ _ _ => pg_name (i := 1) scLFixed.nd rfl (Or.inl rfl)) (fun _ _ _ _ _ => pts_nil)
            (fun _ _ _ _ _ => pe_call ih hr (by rfl) mgF F.kp b .nil pass0 (pa_cons (pv 1) pa_nil))) pa_nil)) (pv 0)))), ?_⟩
          refine ⟨_, rfl, by show 2 ≤ sizeLine; decide, fun p hp => ?_⟩
          refine ⟨_, p, _, .type "list", _, true, rfl, upd_same, .cons (.ty "list") (.cons (.ty "tuple") .nil), ty_list (Same.seq (same_upd hp) q), kit_seq (d := .list ds) rfl, true, rfl, ?_⟩
          refine iteT ⟨_, rfl, a, rfl, ⟨_, Same.seq (same_upd hp) q⟩, fun D hD => ?_⟩
          refine lc_list (xs := xs) (fun i H' => Fill K (upd H p (.tup [.ty "list", .ty "tuple"])) D ((ds.take i).map fx) H') (Fill.nil hD) (fun i H' _ f => Same.seq ((same_upd hp).trans f.1) q) (fun i x H' hx f => ?_) (fun Hf f => ?_)
          · obtain ⟨d, hd, hxd⟩ := dpa_get al hx
            refine ⟨rfl, _, rfl, x, d, rfl, dp_same ((same_upd hp).trans f.1) hxd, hs d (List.mem_of_getElem? hd), fun v' H'' s' hv' => ?_⟩
            obtain ⟨acc, e1, e2, f2⟩ := f.put hD s' hv'
            refine ⟨acc, e1, ?_, by rw [take_snoc hd]; exact f2⟩
            rw [e2, List.length_map, sizeLine_eq, List.length_take]
            omega
          · obtain ⟨acc, e1, a1⟩ := f.2
            refine ⟨D, acc, rfl, .inl ⟨SqL.of e1, fun t ht => fix_end (K := K) (H := upd H p (.tup [.ty "list", .ty "tuple"])) (D := D) (Q := Q) (ds := ds.map fx) ?_ ht (fun v' H' s' hv' => ?_) e1⟩⟩
            · rw [List.take_of_length_le (by rw [dpa_len al] <;> exact Nat.le_refl _)] at f
              exact f
            · exact k v' H' ((same_upd hp).trans s') (by rw [fx_list]; exact dp_same (nw_sub (same_upd hp)) hv')
      | @tuple _ ds l hs =>
        cases hv with
        | @tup a xs _ q al =>
          refine ⟨_, PSs.nox (pss_one (ps_ret (pe_ifExp (pt_val (pe_callB call_isiT (by rfl) T.isinstance (by decide +kernel) (pa_cons (pv 0) (pa_cons (pe_tup (pa_cons (pe_bltn (v := .ty "list") (by rfl) T.list (by decide +kernel) rfl) (pa_cons (pe_bltn (v := .ty "tuple") (by rfl) T.tuple (by decide +kernel) rfl) pa_nil))) pa_nil)))) (pe_callTy call_tuple_of (by rfl) T.tuple (by decide +kernel) (pa_cons (pe_lc (own := [("one", 1)]) (g := gName 1) (tt := tYes) rfl scLFixed.nd (pi_tup (pv 0)) (blkOk_by (N := ["value", "one"]) (sc := defScope sLFixed) (by decide +kernel)) (fun _ _ _ _ _ => pg_name (i := 1) scLFixed.nd rfl (Or.inl rfl)) (fun _ _ _ _ _ => pts_nil)
            (fun _ _ _ _ _ => pe_call ih hr (by rfl) mgF F.kp b .nil pass0 (pa_cons (pv 1) pa_nil))) pa_nil)) (pv 0)))), ?_⟩
          refine ⟨_, rfl, by show 2 ≤ sizeLine; decide, fun p hp => ?_⟩
          refine ⟨_, p, _, .type "tuple", _, true, rfl, upd_same, .cons (.ty "list") (.cons (.ty "tuple") .nil), ty_tup (sqt_same (same_upd hp) q), kit_seq (d := .tuple ds) rfl, true, rfl, ?_⟩
          refine iteT ⟨_, rfl, a, rfl, ⟨_, sqt_same (same_upd hp) q⟩, fun D hD => ?_⟩
          refine lc_tup (xs := xs) (fun i H' => Fill K (upd H p (.tup [.ty "list", .ty "tuple"])) D ((ds.take i).map fx) H') (Fill.nil hD) (fun i H' _ f => sqt_same ((same_upd hp).trans f.1) q) (fun i x H' hx f => ?_) (fun Hf f => ?_)
          · obtain ⟨d, hd, hxd⟩ := dpa_get al hx
            refine ⟨rfl, _, rfl, x, d, rfl, dp_same ((same_upd hp).trans f.1) hxd, hs d (List.mem_of_getElem? hd), fun v' H'' s' hv' => ?_⟩
            obtain ⟨acc, e1, e2, f2⟩ := f.put hD s' hv'
            refine ⟨acc, e1, ?_, by rw [take_snoc hd]; exact f2⟩
            rw [e2, List.length_map, sizeLine_eq, List.length_take]
            omega
          · obtain ⟨acc, e1, a1⟩ := f.2
            refine ⟨D, acc, rfl, .inl ⟨SqL.of e1, fun t ht => fix_end (K := K) (H := upd H p (.tup [.ty "list", .ty "tuple"])) (D := D) (Q := Q) (ds := ds.map fx) ?_ ht (fun v' H' s' hv' => ?_) e1⟩⟩
            · rw [List.take_of_length_le (by rw [dpa_len al] <;> exact Nat.le_refl _)] at f
              exact f
            · exact k v' H' ((same_upd hp).trans s') (by rw [fx_tuple]; exact dp_same (nw_sub (same_upd hp)) hv')
end
end K8
set_option Elab.async false
set_option linter.all false
set_option maxRecDepth 100000
set_option maxHeartbeats 4000000
namespace K8
open PySem PySem.Spec PyProof.Rows L2
abbrev sPen : Stmt := top 41
abbrev sDraw : Stmt := top 42
abbrev sPick : Stmt := top 43
abbrev sValue : Stmt := top 44
/-- what draws: the cells, how many were begun, what is left -/
structure PenAt (H : Hp) (p c : Addr) (cells : List Int) (n rest : Int) : Prop where
  pen : H p = some (.lst [.ref c, .int n, .int rest])
  cel : H c = some (.lst (cells.map V.int))
theorem PenAt.ne {H : Hp} {p c : Addr} {cells : List Int} {n rest : Int} (h : PenAt H p c cells n rest) : c ≠ p := by
  intro e
  subst e
  have z := h.pen.symm.trans h.cel
  injection z with z
  injection z with z
  cases cells with
  | nil => cases z
  | cons a r => cases z
/-- all but the pen stands -/
def Keep (p : Addr) (H H' : Hp) : Prop := ∀ b o, b ≠ p → H b = some o → H' b = some o
theorem Keep.refl {p : Addr} (H : Hp) : Keep p H H := fun _ _ _ e => e
theorem Keep.trans {p : Addr} {H H1 H2 : Hp} (a : Keep p H H1) (b : Keep p H1 H2) : Keep p H H2 := fun c o h e => b c o h (a c o h e)
theorem Keep.of {p : Addr} {H H' : Hp} (s : Same H H') : Keep p H H' := fun b o _ e => s b o e
theorem Keep.upd {p : Addr} {H : Hp} {o : HO} : Keep p H (upd H p o) := fun b u h e => by
  rw [upd_ne h]
  exact e
def spPen (K : PySem.W.Frag) : Sp := fun vs H Q _ => ∃ (a : Addr) (ns : List Int), vs = [.ref a] ∧ SqL K H a (ns.map V.int) ∧ ns.length ≤ 63 ∧ ∀ (ms : List Int) (p c : Addr) (H' : Hp), ms.length ≤ 63 → Same H H' → H p = none → H c = none → PenAt H' p c ms 0 0 → Q (.ref p) H'
def spDraw : Sp := fun vs H Q _ => ∃ (p c : Addr) (cells : List Int) (n rest many : Int), vs = [.ref p, .int many] ∧ PenAt H p c cells n rest ∧ 0 ≤ n ∧ n ≤ 100000 ∧ cells.length ≤ 63 ∧ 1 ≤ many ∧ many ≤ 1000 ∧
  ∀ (r n' rest' : Int) (H' : Hp), 0 ≤ r → r < many → n ≤ n' → n' ≤ n + 1 → Keep p H H' → PenAt H' p c cells n' rest' → Q (.int r) H'
section
variable {P : Program} {w : World} {K : PySem.W.Frag} {mg : Str → Option Value} {base : Heap}
theorem scDraw : FnScope ["pen", "many", "rest", "at", "cell", "mixed"] ["pen", "many"] (defScope sDraw) := ⟨rfl, rfl, rfl, by decide +kernel, rfl, by decide +kernel, by decide +kernel⟩
/-- the i-th thing of the pen -/
theorem pen_at {H : Hp} {p c : Addr} {cells : List Int} {n rest : Int} (h : PenAt H p c cells n rest) : SqL K H p [.ref c, .int n, .int rest] := SqL.of h.pen
theorem iteB {b : Bool} {A B : Prop} (h1 : A) (h2 : B) : if b = true then A else B := by
  cases b with
  | false => exact iteF h2
  | true => exact iteT h1
theorem ints_shaped (ns : List Int) : SeqAt.shaped (.list (ns.map PyData.int)) = true := by
  have h1 : PyData.canLay0 (.list (ns.map PyData.int)) = true := by
    rw [PyData.canLay0]
    exact all_canLay _ fun x hx => by
      obtain ⟨i, _, rfl⟩ := List.mem_map.mp hx
      rfl
  have h2 : PyData.depth (.list (ns.map PyData.int)) ≤ 64 := by
    rw [PyData.depth]
    have := all_depth 1 (ns.map PyData.int) fun x hx => by
      obtain ⟨i, _, rfl⟩ := List.mem_map.mp hx
      simp [PyData.depth]
    omega
  unfold SeqAt.shaped
  rw [h1, decide_eq_true h2] <;> rfl
theorem dpa_ints {K : PySem.W.Frag} {H : Hp} : ∀ ns : List Int, DpAll K H (ns.map V.int) (ns.map PyData.int)
  | [] => .nil
  | a :: r => .cons (.int a) (dpa_ints r)
theorem at_mod {ns : List Int} (h : ns ≠ []) (n : Int) : 0 < ((ns.map V.int).length : Int) ∧ ∃ c : Int, atI (ns.map V.int) (n % ((ns.map V.int).length : Int)) = some (.int c) := by
  have hl : 0 < (ns.map V.int).length := by
    cases ns with
    | nil => exact absurd rfl h
    | cons a r => simp
  have h0 : (0 : Int) < ((ns.map V.int).length : Int) := by omega
  refine ⟨h0, ?_⟩
  have h1 := Int.emod_nonneg n (by omega : ((ns.map V.int).length : Int) ≠ 0)
  have h2 := Int.emod_lt_of_pos n h0
  generalize n % ((ns.map V.int).length : Int) = z at h1 h2 ⊢
  obtain ⟨j, rfl⟩ := Int.eq_ofNat_of_zero_le h1
  have h3 : j < ns.length := by
    rw [List.length_map] at h2
    omega
  exact ⟨ns[j], atI_nat (by rw [List.getElem?_map, List.getElem?_eq_getElem h3]; rfl)⟩
theorem nil_eqv (ns : List Int) : (!PyData.eqv (.list (ns.map PyData.int)) (.list [])) = decide (ns ≠ []) := by
  cases ns with
  | nil => rfl
  | cons a r => rfl
theorem bound1 {cell n : Int} (h0 : 0 ≤ n) (h1 : n ≤ 100000) : (cell % 2147483579 + 36469 * n + 7989).natAbs < 2 ^ 64 := by
  have a := Int.emod_nonneg cell (by decide : (2147483579 : Int) ≠ 0)
  have b := Int.emod_lt_of_pos cell (by decide : (0 : Int) < 2147483579)
  omega
theorem m64 {m : Int} (m0 : 0 ≤ m) (m1 : m < 2147483587) : -(2 ^ 64) < m ∧ m < 2 ^ 64 := ⟨by omega, by omega⟩
theorem bound2 {m n : Int} (m0 : 0 ≤ m) (m1 : m < 2147483587) (h0 : 0 ≤ n) (h1 : n ≤ 100000) : (m * (2 * n + 7989) + 36469 * n * n + 73169).natAbs < 2 ^ 64 := by
  have a : m * (2 * n + 7989) ≤ 2147483587 * 207989 := Int.mul_le_mul (by omega) (by omega) (by omega) (by omega)
  have a' : 0 ≤ m * (2 * n + 7989) := Int.mul_nonneg m0 (by omega)
  have b : 36469 * n * n ≤ 3646900000 * 100000 := Int.mul_le_mul (by omega) (by omega) (by omega) (by omega)
  have b' : 0 ≤ 36469 * n * n := Int.mul_nonneg (by omega) h0
  omega
theorem PenAt.same {H H' : Hp} {p c : Addr} {cells : List Int} {n rest : Int} (s : Same H H') (h : PenAt H p c cells n rest) : PenAt H' p c cells n rest := ⟨s _ _ h.pen, s _ _ h.cel⟩
theorem ok_draw {f : Addr} {fd : FuncData} (F : FnP K "_law_draw" "_law_draw" sDraw f fd) (T : Blt mg) : FnOk P w K mg base CX0 1 f fd ["pen", "many"] spDraw := by
  refine F.ok scDraw (fun vs H Q E h => ?_) (fun cdv A outer s H vs Q E hr h => ?_)
  · obtain ⟨p, c, cells, n, rest, many, rfl, _⟩ := h
    rfl
  · obtain ⟨p, c, cells, n, rest, many, rfl, hp, n0, n1, hl, m0, m1, k⟩ := h
    refine ⟨_, PSs.nox (C8.pss_cut (ps_if (pt_cmpR op_gt (pe_ix ix_list (pv 0) pe_int (fun _ _ => rfl)) pe_int (nomark _)) (pss_cons (ps_set (i := 2) scDraw.nd rfl (Or.inl rfl) (pe_callTy call_int1 (by rfl) T.int (by decide +kernel) (pa_cons (pe_ix ix_list (pv 0) pe_int (fun _ _ => rfl)) pa_nil)))
        (pss_cons (ps_asg (pe_op op_fdiv (pv 2) (pv 1)) (pg_sub (pv 0) pe_int set_list))
        (pss_one (ps_ret (pe_op op_mod (pe_callTy call_int1 (by rfl) T.int (by decide +kernel) (pa_cons (pv 2) pa_nil)) (pv 1)))))) pss_nil)
        (pss_cons (ps_set (i := 3) scDraw.nd rfl (Or.inl rfl) (pe_ix ix_list (pv 0) pe_int (fun _ _ => rfl)))
        (pss_cons (ps_asg (pe_op op_add (pv 3) pe_int) (pg_sub (pv 0) pe_int set_list))
        (pss_cons (ps_set (i := 4) scDraw.nd rfl (Or.inl rfl) (pe_op op_add (pe_op op_mul pe_int (pv 3)) pe_int))
        (C8.pss_cut (ps_if (pt_cmpR (op_neD hr.units) (pe_ix ix_list (pv 0) pe_int (fun _ _ => rfl)) (pe_lst pa_nil) (nomark _)) (pss_one (ps_set (i := 4) scDraw.nd rfl (Or.inl rfl) (pe_ix ix_list (pe_ix ix_list (pv 0) pe_int (fun _ _ => rfl)) (pe_op op_mod (pe_callTy call_int1 (by rfl) T.int (by decide +kernel) (pa_cons (pv 3) pa_nil)) (pe_callB call_len_seq (by rfl) T.len boot_len (pa_cons (pe_ix ix_list (pv 0) pe_int (fun _ _ => rfl)) pa_nil))) (fun _ _ => rfl)))) pss_nil)
        (C8.pss_cut (ps_if (PW.pt (pw_and (pt_cmpR op_lt (pv 3) (pe_callB call_len_seq (by rfl) T.len boot_len (pa_cons (pe_ix ix_list (pv 0) pe_int (fun _ _ => rfl)) pa_nil)) (nomark _)) (pw_and1 (pt_cmpR op_ge (pe_callB call_abs (by rfl) T.abs (by decide +kernel) (pa_cons (pv 4) pa_nil)) (pe_op op_pow pe_int pe_int) (nomark _))))) (pss_cons (ps_set (i := 2) scDraw.nd rfl (Or.inl rfl) (pe_op op_add (pe_op op_mul pe_int (pe_op op_sub (pe_callB call_abs (by rfl) T.abs (by decide +kernel) (pa_cons (pv 4) pa_nil)) (pe_op op_pow pe_int pe_int))) (pe_callTy call_int1 (by rfl) T.int (by decide +kernel) (pa_cons (pe_cmpR op_lt (pv 4) pe_int (nomark _)) pa_nil))))
        (pss_cons (ps_asg (pe_op op_fdiv (pe_callTy call_int1 (by rfl) T.int (by decide +kernel) (pa_cons (pv 2) pa_nil)) (pv 1)) (pg_sub (pv 0) pe_int set_list))
        (pss_one (ps_ret (pe_op op_mod (pe_callTy call_int1 (by rfl) T.int (by decide +kernel) (pa_cons (pv 2) pa_nil)) (pv 1)))))) pss_nil)
        (pss_cons (ps_set (i := 5) scDraw.nd rfl (Or.inl rfl) (pe_op op_mod (pe_callTy call_int1 (by rfl) T.int (by decide +kernel) (pa_cons (pe_op op_pow (pe_op op_add (pe_op op_add (pe_op op_mod (pe_callTy call_int1 (by rfl) T.int (by decide +kernel) (pa_cons (pv 4) pa_nil)) pe_int) (pe_op op_mul pe_int (pv 3))) pe_int) pe_int) pa_nil)) pe_int))
        (pss_cons (ps_set (i := 5) scDraw.nd rfl (Or.inl rfl) (pe_op op_mod (pe_callTy call_int1 (by rfl) T.int (by decide +kernel) (pa_cons (pe_op op_pow (pe_op op_add (pe_op op_add (pe_op op_mul (pv 5) (pe_op op_add (pe_op op_mul pe_int (pv 3)) pe_int)) (pe_op op_mul (pe_op op_mul pe_int (pv 3)) (pv 3))) pe_int) pe_int) pa_nil)) pe_int))
        (pss_one (ps_ret (pe_op op_mod (pe_callTy call_int1 (by rfl) T.int (by decide +kernel) (pa_cons (pe_op op_fdiv (pv 5) pe_int) pa_nil)) (pv 1)))))))))))), ?_⟩
    -- pen[2] > 0
    refine ⟨fun σ' H' => σ' = [some (.ref p), some (.int many), none, none, none, none] ∧ H = H', ?_, ?_⟩
    · refine ⟨_, rfl, p, _, _, _, rfl, rfl, pen_at hp, atI_nat (j := 2) rfl, _, _, rfl, rfl, _, rfl, ?_⟩
      by_cases hr0 : 0 < rest
      · rw [decide_eq_true hr0]
        refine iteT ⟨_, rfl, p, _, _, _, rfl, rfl, pen_at hp, atI_nat (j := 2) rfl, .inl ⟨_, rfl, ?_⟩⟩
        refine ⟨_, rfl, _, rfl, _, _, rfl, rfl, ⟨by omega, by omega⟩, ?_⟩
        refine ⟨_, rfl, p, _, _, 2, rfl, rfl, hp.pen, rfl, ?_⟩
        refine ⟨_, rfl, .inl ⟨_, rfl, _, rfl, _, _, rfl, rfl, (by omega : (0 : Int) < many), ?_⟩⟩
        exact k _ n (rest / many) _ (Int.emod_nonneg _ (by omega)) (Int.emod_lt_of_pos _ (by omega)) (by omega) (by omega) Keep.upd ⟨upd_same, by rw [upd_ne hp.ne]; exact hp.cel⟩
      · rw [decide_eq_false hr0]
        exact iteF ⟨rfl, rfl⟩
    rintro _ _ ⟨rfl, rfl⟩
    have hp1 : PenAt (upd H p (.lst [.ref c, .int (n + 1), .int rest])) p c cells (n + 1) rest := ⟨upd_same, by rw [upd_ne hp.ne]; exact hp.cel⟩
    have k1 : Keep p H (upd H p (.lst [.ref c, .int (n + 1), .int rest])) := Keep.upd
    generalize hH1 : upd H p (.lst [.ref c, .int (n + 1), .int rest]) = H1 at hp1 k1
    refine ⟨_, rfl, p, _, _, _, rfl, rfl, pen_at hp, atI_nat (j := 1) rfl, ?_⟩
    refine ⟨_, rfl, _, _, rfl, rfl, _, rfl, p, _, _, 1, rfl, rfl, hp.pen, rfl, ?_⟩
    refine ⟨_, rfl, _, _, rfl, rfl, .inl ⟨by decide, by decide⟩, _, _, rfl, rfl, ?_⟩
    show C8.tCut _ _ _ _ (upd H p (.lst [.ref c, .int (n + 1), .int rest]))
    rw [hH1]
    refine ⟨fun σ' H' => (∃ cell : Int, σ' = [some (.ref p), some (.int many), none, some (.int n), some (.int cell), none]) ∧ Keep p H H' ∧ PenAt H' p c cells (n + 1) rest, ?_, ?_⟩
    · refine ⟨_, rfl, p, _, _, _, rfl, rfl, pen_at hp1, atI_nat (j := 0) rfl, (by show 0 ≤ sizeLine; decide), fun q hq => ?_⟩
      refine ⟨.list (cells.map .int), .list [], .lst (SqL.of (same_upd hq _ _ hp1.cel)) (dpa_ints cells), .lst (SqL.of upd_same) .nil, ints_shaped cells, ints_shaped [], _, rfl, ?_⟩
      have hp2 := hp1.same (same_upd (o := .lst []) hq)
      have k2 := k1.trans (Keep.of (same_upd (o := .lst []) hq))
      rw [nil_eqv]
      by_cases hc : cells = []
      · rw [decide_eq_false (not_not_intro hc)]
        exact iteF ⟨⟨_, rfl⟩, k2, hp2⟩
      · rw [decide_eq_true hc]
        obtain ⟨hl, v, hv⟩ := at_mod hc n
        refine iteT ⟨_, rfl, p, _, _, _, rfl, rfl, pen_at hp2, atI_nat (j := 0) rfl, _, rfl, .inl ⟨_, rfl, _, rfl, p, _, _, _, rfl, rfl, pen_at hp2, atI_nat (j := 0) rfl, c, _, rfl, .inl (SqL.of hp2.cel), _, _, rfl, rfl, hl, c, _, _, _, rfl, rfl, SqL.of hp2.cel, hv, ?_⟩⟩
        exact ⟨⟨v, rfl⟩, k2, hp2⟩
    rintro _ H2 ⟨⟨cell, rfl⟩, k2, hp2⟩
    refine ⟨fun σ' H' => σ' = [some (.ref p), some (.int many), none, some (.int n), some (.int cell), none] ∧ H2 = H', ?_, ?_⟩
    · refine ⟨_, rfl, _, rfl, p, _, _, _, rfl, rfl, pen_at hp2, atI_nat (j := 0) rfl, c, _, rfl, .inl (SqL.of hp2.cel), _, _, rfl, rfl, _, rfl, ?_⟩
      generalize decide (n < ((cells.map V.int).length : Int)) = b1
      cases b1 with
      | false => exact iteF (iteF ⟨rfl, rfl⟩)
      | true =>
        refine iteT ⟨_, rfl, _, rfl, _, _, rfl, rfl, ⟨by decide, by decide, by decide⟩, _, _, rfl, rfl, _, rfl, ?_⟩
        refine iteB ?_ ⟨rfl, rfl⟩
        · refine ⟨_, rfl, _, rfl, _, _, rfl, rfl, ⟨by decide, by decide, by decide⟩, _, _, rfl, rfl, _, _, rfl, rfl, .inl ⟨by decide, by decide⟩, _, rfl, _, _, rfl, rfl, .inr ⟨_, rfl, _, _, rfl, rfl, ?_⟩⟩
          refine ⟨_, rfl, .inl ⟨_, rfl, _, rfl, _, _, rfl, rfl, ⟨by omega, by omega⟩, ?_⟩⟩
          refine ⟨_, rfl, p, _, _, 2, rfl, rfl, hp2.pen, rfl, ?_⟩
          refine ⟨_, rfl, .inl ⟨_, rfl, _, rfl, _, _, rfl, rfl, (by omega : (0 : Int) < many), ?_⟩⟩
          exact k _ (n + 1) _ _ (Int.emod_nonneg _ (by omega)) (Int.emod_lt_of_pos _ (by omega)) (by omega) (by omega) (k2.trans Keep.upd) ⟨upd_same, by rw [upd_ne hp2.ne]; exact hp2.cel⟩
    rintro _ _ ⟨rfl, rfl⟩
    refine ⟨_, rfl, .inl ⟨_, rfl, _, _, rfl, rfl, (by decide : (0 : Int) < 2147483579), _, rfl, _, _, rfl, rfl, .inl ⟨by decide, by decide⟩, _, _, rfl, rfl, _, _, rfl, rfl, _, _, rfl, rfl, ⟨by decide, by decide, bound1 n0 n1⟩, .inl ⟨_, rfl, _, _, rfl, rfl, (by decide : (0 : Int) < 2147483587), ?_⟩⟩⟩
    have m0 := Int.emod_nonneg ((cell % 2147483579 + 36469 * n + 7989) ^ (5 : Int).toNat) (by decide : (2147483587 : Int) ≠ 0)
    have m1 := Int.emod_lt_of_pos ((cell % 2147483579 + 36469 * n + 7989) ^ (5 : Int).toNat) (by decide : (0 : Int) < 2147483587)
    refine ⟨_, rfl, _, rfl, _, _, rfl, rfl, .inl ⟨by decide, by decide⟩, _, _, rfl, rfl, _, _, rfl, rfl, .inl (m64 m0 m1), _, rfl, _, _, rfl, rfl, .inl ⟨by decide, by decide⟩, _, rfl, _, _, rfl, rfl, .inr ⟨by omega, by omega⟩, _, _, rfl, rfl, _, _, rfl, rfl, _, _, rfl, rfl, ⟨by decide, by decide, bound2 m0 m1 n0 n1⟩, .inl ⟨_, rfl, _, _, rfl, rfl, (by decide : (0 : Int) < 2147483563), ?_⟩⟩
    refine ⟨_, rfl, _, _, rfl, rfl, ⟨by decide, by decide⟩, .inl ⟨_, rfl, _, rfl, _, _, rfl, rfl, (by omega : (0 : Int) < many), ?_⟩⟩
    exact k _ (n + 1) _ _ (Int.emod_nonneg _ (by omega)) (Int.emod_lt_of_pos _ (by omega)) (by omega) (by omega) k2 hp2
end
end K8
set_option Elab.async false
set_option linter.all false
set_option maxRecDepth 100000
set_option maxHeartbeats 4000000
namespace K8
open PySem PySem.Spec PyProof.Rows L2
/-- a def of the text that is known by its name, with its promise -/
structure Kn (P : Program) (w : World) (K : PySem.W.Frag) (mg : Str → Option Value) (base : Heap) (k : Nat) (x : Str) (ps : List Str) (sp : Sp) (f : Addr) (fd : FuncData) : Prop where
  ok : FnOk P w K mg base CX0 k f fd ps sp
  mg : mg x = some (.ref f)
  kp : PySem.W.keepIn K (.ref f) = true
  b : Binds K fd ps []
section
variable {K : PySem.W.Frag} {H H1 H' H'' : Hp} {D p : Addr}
theorem Keep.free {o : HO} (hp : H p = some o) (k : Keep p H H') {b : Addr} (h : H' b = none) (hp' : H' p ≠ none) : H b = none := by
  cases e : H b with
  | none => rfl
  | some u =>
    by_cases hb : b = p
    · subst hb
      exact absurd h hp'
    · rw [k b u hb e] at h
      cases h
theorem nw_growK (k : Keep p H' H'') (hp : H p ≠ none) : Same (nw H H') (nw H H'') := fun b o e => by
  obtain ⟨h1, h2⟩ := nw_get e
  rw [nw_at h1]
  exact k b o (fun z => by subst z; exact hp h1) h2
theorem nw_subK (k : Keep p H H1) (hp : H1 p ≠ none) : Same (nw H1 H') (nw H H') := fun b o e => by
  obtain ⟨h1, h2⟩ := nw_get e
  have h0 : H b = none := by
    cases e : H b with
    | none => rfl
    | some u =>
      by_cases hb : b = p
      · subst hb
        exact absurd h1 hp
      · rw [k b u hb e] at h1
        cases h1
  rw [nw_at h0]
  exact h2
/-- a list that a comprehension fills with new data, while the pen p is written -/
def FillK (K : PySem.W.Frag) (p : Addr) (H : Hp) (D : Addr) (ds : List PyData) (H' : Hp) : Prop := Keep p H H' ∧ ∃ acc, H' D = some (.lst acc) ∧ DpAll K (nwx D H H') acc ds
theorem FillK.nil (h : H D = none) : FillK K p H D [] (upd H D (.lst [])) := ⟨Keep.of (same_upd h), [], upd_same, .nil⟩
theorem FillK.put {ds : List PyData} {v : V} {d : PyData} (f : FillK K p H D ds H1) (hD : H D = none) (hp : H p ≠ none) (hp1 : H1 p ≠ none) (s : Keep p H1 H') (hv : Dp K (nw H1 H') v d) : ∃ acc, H' D = some (.lst acc) ∧ acc.length = ds.length ∧ FillK K p H D (ds ++ [d]) (upd H' D (.lst (acc ++ [v]))) := by
  obtain ⟨s1, acc, e, a⟩ := f
  have hDp : D ≠ p := fun z => hp (by rw [← z]; exact hD)
  have grow : ∀ {G : Hp}, (∀ b o, b ≠ D → b ≠ p → G b = some o → upd H' D (.lst (acc ++ [v])) b = some o) → Same (nwx D H G) (nwx D H (upd H' D (.lst (acc ++ [v])))) := fun q b o z => by
    by_cases hb : b = D
    · subst hb
      unfold nwx at z
      rw [if_pos rfl] at z
      cases z
    · rw [nwx_at hb] at z ⊢
      obtain ⟨h1, h2⟩ := nw_get z
      rw [nw_at h1]
      exact q b o hb (fun y => hp (by rw [← y]; exact h1)) h2
  have g1 : Same (nwx D H H1) (nwx D H (upd H' D (.lst (acc ++ [v])))) := grow fun b o hb hbp z => by
    rw [upd_ne hb]
    exact s b o hbp z
  have g2 : Same (nw H1 H') (nwx D H H') := fun b o z => by
    obtain ⟨h1, h2⟩ := nw_get (nw_subK s1 hp1 _ _ z)
    have hb : b ≠ D := fun y => by
      subst y
      have := (nw_get z).1
      rw [e] at this
      cases this
    rw [nwx_at hb, nw_at h1]
    exact h2
  have g3 : Same (nwx D H H') (nwx D H (upd H' D (.lst (acc ++ [v])))) := grow fun b o hb hbp z => by
    rw [upd_ne hb]
    exact z
  refine ⟨acc, s _ _ hDp e, dpa_len a, fun b o hb z => ?_, acc ++ [v], upd_same, dpa_snoc (dpa_same g1 a) (dp_same (g2.trans g3) hv)⟩
  rw [upd_ne (ne_of_none z hD)]
  exact s _ _ hb (s1 _ _ hb z)
theorem PenAt.keep {p q c : Addr} {cells : List Int} {n rest : Int} (h : PenAt H p c cells n rest) (hq : H q = none) {o : HO} : PenAt (upd H q o) p c cells n rest := h.same (same_upd hq)
theorem PenAt.some {p c : Addr} {cells : List Int} {n rest : Int} (h : PenAt H p c cells n rest) : H p ≠ none := by
  rw [h.pen]
  intro e
  cases e
/-- the pen where another thing is written -/
theorem PenAt.wr {p q c : Addr} {cells : List Int} {n rest : Int} (h : PenAt H p c cells n rest) (hp : q ≠ p) (hc : q ≠ c) {o : HO} : PenAt (upd H q o) p c cells n rest := ⟨by rw [upd_ne (fun z => hp z.symm)]; exact h.pen, by rw [upd_ne (fun z => hc z.symm)]; exact h.cel⟩
end
/-- a test that is never reached -/
theorem pt_never {X : Cx} {e : Expr} : PT X e (fun _ _ _ => False) := ⟨fun _ _ _ _ _ _ h => h.elim⟩
def cost : Nat → Int
  | 0 => 1
  | d + 1 => 2 + 3 * cost d
theorem cost_pos : ∀ d, 1 ≤ cost d
  | 0 => by decide
  | d + 1 => by
    have := cost_pos d
    simp only [cost]
    omega
def spPick : Sp := fun vs H Q _ => ∃ (p c : Addr) (cells : List Int) (n rest : Int) (a : Addr) (xs : List V), vs = [.ref p, .ref a] ∧ PenAt H p c cells n rest ∧ 0 ≤ n ∧ n ≤ 100000 ∧ cells.length ≤ 63 ∧ H a = some (.lst xs) ∧ a ≠ p ∧ 1 ≤ xs.length ∧ xs.length ≤ 1000 ∧
  ∀ (i : Nat) (v : V) (n' rest' : Int) (H' : Hp), xs[i]? = some v → n ≤ n' → n' ≤ n + 1 → Keep p H H' → PenAt H' p c cells n' rest' → Q v H'
def spVal (K : PySem.W.Frag) (d : Nat) : Sp := fun vs H Q _ => ∃ (p c : Addr) (cells : List Int) (n rest : Int), vs = [.ref p, .int (d : Nat)] ∧ PenAt H p c cells n rest ∧ 0 ≤ n ∧ n + cost d ≤ 100000 ∧ cells.length ≤ 63 ∧
  ∀ (v : V) (x : PyData) (n' rest' : Int) (H' : Hp), n ≤ n' → n' ≤ n + cost d → Keep p H H' → PenAt H' p c cells n' rest' → LV d x → Dp K (nw H H') v x → Q v H'
section
variable {P : Program} {w : World} {K : PySem.W.Frag} {mg : Str → Option Value} {base : Heap}
theorem scPen : FnScope ["script", "cell"] ["script"] (defScope sPen) := ⟨rfl, rfl, rfl, by decide +kernel, rfl, by decide +kernel, by decide +kernel⟩
theorem scPick : FnScope ["pen", "some"] ["pen", "some"] (defScope sPick) := ⟨rfl, rfl, rfl, by decide +kernel, rfl, by decide +kernel, by decide +kernel⟩
theorem scValue : FnScope ["pen", "deep", "lap"] ["pen", "deep"] (defScope sValue) := ⟨rfl, rfl, rfl, by decide +kernel, rfl, by decide +kernel, by decide +kernel⟩
theorem cut_ints (ns : List Int) (lo hi : Option Int) : ∃ ms : List Int, cutV (ns.map V.int) lo hi = ms.map V.int ∧ ms.length ≤ ns.length := by
  refine ⟨(ns.drop (HT.sIx (ns.map V.int).length 0 lo)).take (HT.sIx (ns.map V.int).length (ns.map V.int).length hi - HT.sIx (ns.map V.int).length 0 lo), ?_, ?_⟩
  · unfold cutV
    rw [List.map_take, List.map_drop]
  · rw [List.length_take, List.length_drop]
    omega
theorem ok_pick {fD : Addr} {dD : FuncData} (KD : Kn P w K mg base 1 "_law_draw" ["pen", "many"] spDraw fD dD) {f : Addr} {fd : FuncData} (F : FnP K "_law_pick" "_law_pick" sPick f fd) (T : Blt mg) : FnOk P w K mg base CX0 2 f fd ["pen", "some"] spPick := by
  refine F.ok scPick (fun vs H Q E h => ?_) (fun cdv A outer s H vs Q E hr h => ?_)
  · obtain ⟨p, c, cells, n, rest, a, xs, rfl, _⟩ := h
    rfl
  · obtain ⟨p, c, cells, n, rest, a, xs, rfl, hp, n0, n1, hl, ha, hap, l0, l1, k⟩ := h
    refine ⟨_, PSs.nox (pss_one (ps_ret (pe_ix ix_list (pv 1) (pe_call KD.ok hr (by rfl) KD.mg KD.kp KD.b .nil pass0 (pa_cons (pv 0) (pa_cons (pe_callB call_len_seq (by rfl) T.len boot_len (pa_cons (pv 1) pa_nil)) pa_nil))) (fun _ _ => rfl)))), ?_⟩
    refine ⟨_, rfl, _, rfl, _, rfl, a, xs, rfl, .inl (SqL.of ha), ?_⟩
    refine ⟨p, c, cells, n, rest, (xs.length : Int), rfl, hp, n0, n1, hl, by omega, by omega, fun r n' rest' H' r0 r1 m0 m1 kp hp' => ?_⟩
    obtain ⟨j, rfl⟩ := Int.eq_ofNat_of_zero_le r0
    have hj : j < xs.length := by omega
    refine ⟨a, xs, _, xs[j], rfl, rfl, SqL.of (kp _ _ hap ha), atI_nat (List.getElem?_eq_getElem hj), ?_⟩
    exact k j _ n' rest' H' (List.getElem?_eq_getElem hj) m0 m1 kp hp'
theorem ok_pen {f : Addr} {fd : FuncData} (F : FnP K "_law_pen" "_law_pen" sPen f fd) (T : Blt mg) : FnOk P w K mg base CX0 1 f fd ["script"] (spPen K) := by
  refine F.ok scPen (fun vs H Q E h => ?_) (fun cdv A outer s H vs Q E hr h => ?_)
  · obtain ⟨a, ns, rfl, _⟩ := h
    rfl
  · obtain ⟨a, ns, rfl, ha, hl, k⟩ := h
    refine ⟨_, PSs.nox (pss_one (ps_ret (pe_lst (pa_cons (pe_lc (own := [("cell", 1)]) (g := gName 1) (tt := tYes) rfl scPen.nd (pi_list (pe_slice sl_list (pv 0) po_none (po_some pe_int))) (blkOk_by (N := ["script", "cell"]) (sc := defScope sPen) (by decide +kernel)) (fun _ _ _ _ _ => pg_name (i := 1) scPen.nd rfl (Or.inl rfl)) (fun _ _ _ _ _ => pts_nil) (fun _ _ _ _ _ => (pe_callTy call_int1 (by rfl) T.int (by decide +kernel) (pa_cons (pv 1) pa_nil)))) (pa_cons pe_int (pa_cons pe_int pa_nil)))))), ?_⟩
    obtain ⟨ms, hms, hml⟩ := cut_ints ns none (some 63)
    refine ⟨_, rfl, 63, rfl, a, _, rfl, ha, fun q hq => ?_⟩
    rw [hms]
    refine ⟨q, rfl, ⟨_, SqL.of upd_same⟩, fun D hD => ?_⟩
    have hqD : q ≠ D := fun z => by
      subst z
      rw [upd_same] at hD
      cases hD
    refine lc_list (xs := ms.map V.int) (fun i H' => Same (upd H q (.lst (ms.map V.int))) H' ∧ H' D = some (.lst ((ms.take i).map V.int))) ⟨same_upd hD, upd_same⟩ (fun i H' _ f => Same.seq f.1 (SqL.of upd_same)) (fun i x H' hx f => ?_) (fun Hf f => ?_)
    · rw [List.getElem?_map] at hx
      obtain ⟨z, hz, rfl⟩ := Option.map_eq_some_iff.mp hx
      refine ⟨rfl, _, rfl, .inl ⟨z, rfl, _, f.2, ?_, ?_, ?_⟩⟩
      · rw [List.length_map, sizeLine_eq, List.length_take]
        omega
      · exact fun b o e => by
          rw [upd_ne (ne_of_none e hD)]
          exact f.1 b o e
      · rw [upd_same, List.take_add_one, hz, List.map_append] <;> rfl
    · have e1 : (ms.take (ms.map V.int).length).map V.int = ms.map V.int := by rw [List.length_map, List.take_length]
      rw [e1] at f
      refine ⟨by show 3 ≤ sizeLine; decide, fun p hp => ?_⟩
      refine k ms p D _ (by omega) (((same_upd hq).trans f.1).trans (same_upd hp)) (((same_upd hq).trans f.1).free hp) ((same_upd hq).free hD) ⟨upd_same, ?_⟩
      rw [upd_ne (fun z => by rw [← z, f.2] at hp; cases hp)]
      exact f.2
/-- the ten things that a value may be -/
def tenV (t : Addr) : List V := [.non, .int 0, .int 1, .bl true, .bl false, .str (Str.ofString "x"), .str (Str.ofString "light"), .int (-5), .int (10 ^ (64 : Int).toNat), .ref t]
theorem ten_ok {K : PySem.W.Frag} {t : Addr} {G : Hp} (hG : G t = some (.tup [.int 1, .int 2])) {d i : Nat} {v : V} (h : (tenV t)[i]? = some v) : ∃ x, LV d x ∧ Dp K G v x := by
  have hv : v ∈ tenV t := List.mem_of_getElem? h
  rcases List.mem_cons.mp hv with rfl | hv
  · exact ⟨_, .atom (by decide), .non⟩
  rcases List.mem_cons.mp hv with rfl | hv
  · exact ⟨_, .atom (by decide), .int 0⟩
  rcases List.mem_cons.mp hv with rfl | hv
  · exact ⟨_, .atom (by decide), .int 1⟩
  rcases List.mem_cons.mp hv with rfl | hv
  · exact ⟨_, .atom (by decide), .bl true⟩
  rcases List.mem_cons.mp hv with rfl | hv
  · exact ⟨_, .atom (by decide), .bl false⟩
  rcases List.mem_cons.mp hv with rfl | hv
  · exact ⟨_, .atom (by decide +kernel), .str _⟩
  rcases List.mem_cons.mp hv with rfl | hv
  · exact ⟨_, .atom (by decide +kernel), .str _⟩
  rcases List.mem_cons.mp hv with rfl | hv
  · exact ⟨_, .atom (by decide +kernel), .int _⟩
  rcases List.mem_cons.mp hv with rfl | hv
  · exact ⟨_, .atom (by decide +kernel), .int _⟩
  obtain rfl := List.mem_singleton.mp hv
  exact ⟨_, .pair, .tup (SqT.of hG) (.cons (.int 1) (.cons (.int 2) .nil))⟩
section
variable {P : Program} {w : World} {K : PySem.W.Frag} {mg : Str → Option Value} {base : Heap}
/-- the last statement of _law_value, met at H -/
theorem ten_end {H : Hp} {p c : Addr} {cells : List Int} {n rest n0 : Int} {Q : VK} {H0 : Hp} {d : Nat} (hk : Keep p H0 H) (hp0 : H0 p ≠ none) (hp : PenAt H p c cells n rest) (h0 : 0 ≤ n) (h1 : n ≤ 100000) (hl : cells.length ≤ 63) (hn : n0 ≤ n) {m : Int} (hm : n + 1 ≤ n0 + m)
    (k : ∀ (v : V) (x : PyData) (n' rest' : Int) (H' : Hp), n0 ≤ n' → n' ≤ n0 + m → Keep p H0 H' → PenAt H' p c cells n' rest' → LV d x → Dp K (nw H0 H') v x → Q v H') (t : Addr) (ht : H t = none) (a : Addr) (ha : upd H t (.tup [.int 1, .int 2]) a = none) {Q' : VK} (hQ : Q = Q') :
    spPick [.ref p, .ref a] (upd (upd H t (.tup [.int 1, .int 2])) a (.lst (tenV t))) Q' E0 := by
  subst hQ
  have hap : a ≠ p := fun z => by
    subst z
    rw [(hp.keep ht).pen] at ha
    cases ha
  have htp : t ≠ p := fun z => by
    subst z
    rw [hp.pen] at ht
    cases ht
  have hta : t ≠ a := fun z => by
    subst z
    rw [upd_same] at ha
    cases ha
  refine ⟨p, c, cells, n, rest, a, _, rfl, (hp.keep ht).keep ha, h0, h1, hl, upd_same, hap, by show 1 ≤ 10; decide, by show 10 ≤ 1000; decide, fun i v n' rest' H' hv m0 m1 kp hp' => ?_⟩
  have hH0t : H0 t = none := by
    cases e : H0 t with
    | none => rfl
    | some u => rw [hk t u htp e] at ht; cases ht
  have hG : H' t = some (.tup [.int 1, .int 2]) := kp _ _ htp (by rw [upd_ne hta, upd_same])
  obtain ⟨x, hx, hd⟩ := ten_ok (K := K) (G := nw H0 H') (d := d) (by rw [nw_at hH0t]; exact hG) hv
  exact k v x n' rest' H' (by omega) (by omega) ((hk.trans (Keep.of ((same_upd ht).trans (same_upd ha)))).trans kp) hp' hx hd
theorem ok_value {fD fP : Addr} {dD dP : FuncData} (KD : Kn P w K mg base 1 "_law_draw" ["pen", "many"] spDraw fD dD) (KP : Kn P w K mg base 2 "_law_pick" ["pen", "some"] spPick fP dP) {f : Addr} {fd : FuncData} (F : FnP K "_law_value" "_law_value" sValue f fd) (T : Blt mg) (mgV : mg "_law_value" = some (.ref f)) : ∀ d : Nat, FnOk P w K mg base CX0 (d + 3) f fd ["pen", "deep"] (spVal K d) := by
  have b : Binds K fd ["pen", "deep"] [] := F.bindsN fun _ _ _ _ _ _ us hl => match us, hl with | [_, _], _ => rfl
  intro d
  induction d with
  | zero =>
    refine F.ok scValue (fun vs H Q E h => ?_) (fun cdv A outer s H vs Q E hr h => ?_)
    · obtain ⟨p, c, cells, n, rest, rfl, _⟩ := h
      rfl
    · obtain ⟨p, c, cells, n, rest, rfl, hp, n0, n1, hl, k⟩ := h
      refine ⟨_, PSs.nox (pss_cons (ps_if (PW.pt (pw_and (pt_cmpR op_gt (pv 1) pe_int (nomark _)) (pw_and1 pt_never))) (pss_one (ps_ret pe_never)) pss_nil)
        (pss_one (ps_ret (pe_call KP.ok (hr.mono (by omega)) (by rfl) KP.mg KP.kp KP.b .nil pass0 (pa_cons (pv 0) (pa_cons (pe_lst (pa_cons pe_non (pa_cons pe_int (pa_cons pe_int (pa_cons pe_bl (pa_cons pe_bl (pa_cons pe_str (pa_cons pe_str (pa_cons (pe_un un_neg pe_int) (pa_cons (pe_op op_pow pe_int pe_int) (pa_cons (pe_tup (pa_cons pe_int (pa_cons pe_int pa_nil))) pa_nil))))))))))) pa_nil)))))), ?_⟩
      refine ⟨_, rfl, _, _, rfl, rfl, false, rfl, iteF (iteF ?_)⟩
      refine ⟨_, rfl, _, rfl, _, _, rfl, rfl, ⟨by decide, by decide, by decide⟩, by show 2 ≤ sizeLine; decide, fun t ht => ⟨by show 10 ≤ sizeLine; decide, fun a ha => ?_⟩⟩
      exact ten_end (n0 := n) (m := cost 0) (d := 0) (Keep.refl H) hp.some hp n0 (by simp only [cost] at n1; omega) hl (by omega) (by simp only [cost]; omega) k t ht a ha rfl
  | succ d ih =>
    refine F.ok scValue (fun vs H Q E h => ?_) (fun cdv A outer s H vs Q E hr h => ?_)
    · obtain ⟨p, c, cells, n, rest, rfl, _⟩ := h
      rfl
    · obtain ⟨p, c, cells, n, rest, rfl, hp, n0, n1, hl, k⟩ := h
      have hcost : cost (d + 1) = 2 + 3 * cost d := rfl
      have hc1 := cost_pos d
      refine ⟨_, PSs.nox (pss_cons (ps_if (PW.pt (pw_and (pt_cmpR op_gt (pv 1) pe_int (nomark _)) (pw_and1 (pt_cmpR op_eq (pe_call KD.ok (hr.mono (by omega)) (by rfl) KD.mg KD.kp KD.b .nil pass0 (pa_cons (pv 0) (pa_cons pe_int pa_nil))) pe_int (nomark _))))) (pss_one (ps_ret (pe_lc (own := [("lap", 2)]) (g := gName 2) (tt := tYes) rfl scValue.nd (pi_range1 (by rfl) T.range (pa_cons (pe_call KD.ok (hr.mono (by omega)) (by rfl) KD.mg KD.kp KD.b .nil pass0 (pa_cons (pv 0) (pa_cons pe_int pa_nil))) pa_nil)) (blkOk_by (N := ["pen", "deep", "lap"]) (sc := defScope sValue) (by decide +kernel)) (fun _ _ _ _ _ => pg_name (i := 2) scValue.nd rfl (Or.inl rfl)) (fun _ _ _ _ _ => pts_nil) (fun _ _ _ _ _ => (pe_call ih hr (by rfl) mgV F.kp b .nil pass0 (pa_cons (pv 0) (pa_cons (pe_op op_sub (pv 1) pe_int) pa_nil))))))) pss_nil)
        (pss_one (ps_ret (pe_call KP.ok (hr.mono (by omega)) (by rfl) KP.mg KP.kp KP.b .nil pass0 (pa_cons (pv 0) (pa_cons (pe_lst (pa_cons pe_non (pa_cons pe_int (pa_cons pe_int (pa_cons pe_bl (pa_cons pe_bl (pa_cons pe_str (pa_cons pe_str (pa_cons (pe_un un_neg pe_int) (pa_cons (pe_op op_pow pe_int pe_int) (pa_cons (pe_tup (pa_cons pe_int (pa_cons pe_int pa_nil))) pa_nil))))))))))) pa_nil)))))), ?_⟩
      refine ⟨_, rfl, _, _, rfl, rfl, true, congrArg V.bl (decide_eq_true (by omega)), iteT ?_⟩
      refine ⟨_, rfl, p, c, cells, n, rest, 2, rfl, hp, n0, by omega, hl, by decide, by decide, fun r n' rest' H' r0 r1 m0 m1 kp hp' => ?_⟩
      refine ⟨rfl, _, rfl, iteB ?_ ?_⟩
      · refine ⟨_, rfl, p, c, cells, n', rest', 4, rfl, hp', by omega, by omega, hl, by decide, by decide, fun r2 n2 rest2 H2 s0 s1 m2 m3 kp2 hp2 => ?_⟩
        obtain ⟨j, rfl⟩ := Int.eq_ofNat_of_zero_le s0
        have hj : j ≤ 3 := by omega
        refine ⟨(j : Int), rfl, by omega, by omega, fun D hD => ?_⟩
        rw [show ((j : Int)).toNat = j from rfl]
        have hDp : D ≠ p := fun z => by
          subst z
          rw [hp2.pen] at hD
          cases hD
        have hDc : D ≠ c := fun z => by
          subst z
          rw [hp2.cel] at hD
          cases hD
        refine lc_range (n := j) (fun i H' => ∃ (ds : List PyData) (n3 rest3 : Int), ds.length = i ∧ (∀ x ∈ ds, LV d x) ∧ n2 ≤ n3 ∧ n3 ≤ n2 + i * cost d ∧ FillK K p H2 D ds H' ∧ PenAt H' p c cells n3 rest3) ⟨[], n2, rest2, rfl, (fun x hx => absurd hx (List.not_mem_nil)), by omega, by simp, FillK.nil hD, hp2.keep hD⟩ (fun i H3 hi f => ?_) (fun H3 f => ?_)
        · obtain ⟨ds, n3, rest3, rfl, hds, m4, m5, f, hp3⟩ := f
          have hm : (ds.length : Int) * cost d ≤ 2 * cost d := Int.mul_le_mul_of_nonneg_right (by omega) (by omega)
          refine ⟨rfl, _, rfl, _, rfl, _, _, rfl, rfl, p, c, cells, n3, rest3, ?_, hp3, by omega, by omega, hl, fun v x n4 rest4 H4 m6 m7 kp4 hp4 hx hv => ?_⟩
          · exact congrArg (fun z : Int => [V.ref p, V.int z]) (show ((d + 1 : Nat) : Int) - 1 = (d : Int) by omega)
          obtain ⟨acc, e1, e2, f2⟩ := f.put hD hp2.some hp3.some kp4 hv
          refine ⟨acc, e1, ?_, ds ++ [x], n4, rest4, by rw [List.length_append]; rfl, ?_, by omega, ?_, f2, hp4.wr hDp hDc⟩
          · rw [e2, sizeLine_eq]
            omega
          · intro y hy
            rcases List.mem_append.mp hy with h | h
            · exact hds y h
            · obtain rfl := List.mem_singleton.mp h
              exact hx
          · rw [show (((ds.length + 1 : Nat) : Int)) * cost d = (ds.length : Int) * cost d + cost d by rw [Int.natCast_add, Int.add_mul]; simp]
            omega
        · obtain ⟨ds, n3, rest3, hdl, hds, m4, m5, ⟨f1, acc, f2, f3⟩, hp3⟩ := f
          have hm : (j : Int) * cost d ≤ 3 * cost d := Int.mul_le_mul_of_nonneg_right (by omega) (by omega)
          refine k (.ref D) (.list ds) n3 rest3 H3 (by omega) (by omega) ((kp.trans kp2).trans f1) hp3 (.list (by omega) hds) ?_
          have hD0 : H D = none := by
            cases e : H D with
            | none => rfl
            | some u => rw [(kp.trans kp2) D u hDp e] at hD; cases hD
          exact .lst (SqL.of (by rw [nw_at hD0]; exact f2)) (dpa_same (nwx_le.trans (nw_subK (kp.trans kp2) hp2.some)) f3)
      · refine ⟨_, rfl, _, rfl, _, _, rfl, rfl, ⟨by decide, by decide, by decide⟩, by show 2 ≤ sizeLine; decide, fun t ht => ⟨by show 10 ≤ sizeLine; decide, fun a ha => ?_⟩⟩
        exact ten_end (n0 := n) (m := cost (d + 1)) (d := d + 1) kp hp.some hp' (by omega) (by omega) hl m0 (by omega) k t ht a ha rfl
end
end
end K8
set_option Elab.async false
set_option linter.all false
set_option maxRecDepth 100000
set_option maxHeartbeats 4000000
namespace K8
open PySem PySem.Spec PyProof.Rows L2
abbrev sLike : Stmt := top 22
/-- a list comprehension over zip of two tuples of one length -/
theorem lc_zipT {K : PySem.W.Frag} {a b : Addr} {xs ys : List V} {g : TG} {tt : TT} {te : TE} {vs : List Nat} {σ : L2.St} {H1 : Hp} {D : Addr} {Qd : Hp → Prop} (hl : xs.length = ys.length) (Pv : Nat → Hp → Prop) (h0 : Pv 0 (upd H1 D (.lst []))) (hq : ∀ i H, Pv i H → SqT K H a xs ∧ SqT K H b ys)
    (hs : ∀ i x y T H, xs[i]? = some x → ys[i]? = some y → Pv i H → H T = none → g (.ref T) (wipe σ vs) (upd H T (.tup [x, y])) fun σ2 H2 => wipe σ2 vs = wipe σ vs ∧ tt σ2 H2 fun b H3 =>
      if b = true then te σ2 H3 fun y H4 => ∃ acc, H4 D = some (.lst acc) ∧ acc.length < sizeLine ∧ Pv (i + 1) (upd H4 D (.lst (acc ++ [y]))) else Pv (i + 1) H3) (hd : ∀ H, Pv xs.length H → Qd H) :
    ∃ W : Nat → Nat → Hp → Prop, (∃ m, W 0 m (upd H1 D (.lst []))) ∧ ∀ i m H, W i m H →
      ((RZ.ItzT K a b).stop i H ∧ Qd H) ∨ ((RZ.ItzT K a b).go i H ∧ ∃ Nx : Hp → Prop, (∀ H', Nx H' → ∃ m', m' < m ∧ W (i + 1) m' H') ∧ ∀ x H', (RZ.ItzT K a b).yld i H x H' → g x (wipe σ vs) H' fun σ2 H2 => wipe σ2 vs = wipe σ vs ∧ tt σ2 H2 fun b H3 =>
        if b = true then te σ2 H3 fun y H4 => ∃ acc, H4 D = some (.lst acc) ∧ acc.length < sizeLine ∧ Nx (upd H4 D (.lst (acc ++ [y]))) else Nx H3) := by
  refine ⟨fun i m H => m = xs.length - i ∧ i ≤ xs.length ∧ Pv i H, ⟨xs.length, rfl, Nat.zero_le _, h0⟩, ?_⟩
  rintro i m H ⟨rfl, hi, p⟩
  obtain ⟨qx, qy⟩ := hq i H p
  by_cases hlt : i < xs.length
  · have hlt2 : i < ys.length := by omega
    refine .inr ⟨⟨xs, ys, _, _, qx, qy, List.getElem?_eq_getElem hlt, List.getElem?_eq_getElem hlt2⟩, Pv (i + 1), fun H' p' => ⟨xs.length - (i + 1), by omega, rfl, hlt, p'⟩, fun v H' z => ?_⟩
    obtain ⟨T, x', y', rfl, hT, rfl, f1, f2⟩ := z
    exact hs i x' y' T H (f1 xs qx) (f2 ys qy) p hT
  · have e : i = xs.length := by omega
    subst e
    exact .inl ⟨⟨xs, ys, qx, qy, Or.inl (Nat.le_refl _)⟩, hd H p⟩
/-- likeness of two values of the drawn kind -/
def spLike (K : PySem.W.Frag) (n : Nat) : Sp := fun vs H Q _ => ∃ (v u : V) (d e : PyData), vs = [v, u] ∧ Dp K H v d ∧ Dp K H u e ∧ pval n d = true ∧ pval n e = true ∧ ∀ H' : Hp, Same H H' → Q (.bl (lik d e)) H'
theorem pv_leaf0 {d : PyData} (h : pval 0 d = true) : isTupD d = false := by
  rcases atom_cases h with h | h | h | h | h | h | h | h | h | h <;> subst h <;> rfl
theorem lik_bools {n m : Nat} {d e : PyData} (hd : pval n d = true) (he : pval m e = true) (b : isBoolD d = true) (c : isBoolD e = true) : lik d e = PyData.eqv d e := by
  cases d with
  | bool x =>
    cases e with
    | bool y =>
      refine lik_eq hd he ?_
      cases x <;> cases y <;> simp [PyData.eqv]
    | _ => cases c
  | _ => cases b
theorem lik_bool1 {n m : Nat} {d e : PyData} (hd : pval n d = true) (he : pval m e = true) (h : isBoolD d ≠ isBoolD e) : lik d e = false :=
  lik_false hd he fun z => h (by rw [z])
theorem lik_rest {n m : Nat} {d e : PyData} (hd : pval n d = true) (he : pval m e = true) (ht : (isTupD d && isTupD e) = false) (hb : isBoolD d = false) (hc : isBoolD e = false) : lik d e = PyData.eqv d e := by
  refine lik_eqv hd he (fun ⟨xs, ys, h1, h2⟩ => ?_) (fun b h => ?_) (fun b h => ?_)
  · subst h1 h2
    cases ht
  · subst h
    cases hb
  · subst h
    cases hc
section
variable {P : Program} {w : World} {K : PySem.W.Frag} {mg : Str → Option Value} {base : Heap}
theorem scLike : FnScope ["one", "other", "mine", "its"] ["one", "other"] (defScope sLike) := ⟨rfl, rfl, rfl, by decide +kernel, rfl, by decide +kernel, by decide +kernel⟩
theorem ok_like {f : Addr} {fd : FuncData} (F : FnP K "is_like" "is_like" sLike f fd) (T : Blt mg) (mgL : mg "is_like" = some (.ref f)) : ∀ n : Nat, n ≤ 60 → FnOk P w K mg base CX0 (n + 1) f fd ["one", "other"] (spLike K n) := by
  have b : Binds K fd ["one", "other"] [] := F.bindsN fun _ _ _ _ _ _ us hl => match us, hl with | [_, _], _ => rfl
  intro n
  induction n with
  | zero =>
    intro hn
    refine F.ok scLike (fun vs H Q E h => ?_) (fun cdv A outer s H vs Q E hr h => ?_)
    · obtain ⟨v, u, d, e, rfl, _⟩ := h
      rfl
    · obtain ⟨v, u, d, e, rfl, hv, hu, pd, pe, k⟩ := h
      refine ⟨_, PSs.nox (pss_cons (ps_if (PW.pt (pw_and (pt_val (pe_callB call_isi (by rfl) T.isinstance (by decide +kernel) (pa_cons (pv 0) (pa_cons (pe_bltn (v := .ty "tuple") (by rfl) T.tuple (by decide +kernel) rfl) pa_nil)))) (pw_and1 (pt_val (pe_callB call_isi (by rfl) T.isinstance (by decide +kernel) (pa_cons (pv 1) (pa_cons (pe_bltn (v := .ty "tuple") (by rfl) T.tuple (by decide +kernel) rfl) pa_nil))))))) (pss_one ps_never) pss_nil)
        (pss_cons (ps_if (PW.pt (pw_or (pt_val (pe_callB call_isi (by rfl) T.isinstance (by decide +kernel) (pa_cons (pv 0) (pa_cons (pe_bltn (v := .ty "bool") (by rfl) T.bool (by decide +kernel) rfl) pa_nil)))) (pw_or1 (pt_val (pe_callB call_isi (by rfl) T.isinstance (by decide +kernel) (pa_cons (pv 1) (pa_cons (pe_bltn (v := .ty "bool") (by rfl) T.bool (by decide +kernel) rfl) pa_nil))))))) (pss_one (ps_ret (pe_and (pe_callB call_isi (by rfl) T.isinstance (by decide +kernel) (pa_cons (pv 0) (pa_cons (pe_bltn (v := .ty "bool") (by rfl) T.bool (by decide +kernel) rfl) pa_nil))) (pe_and (pe_callB call_isi (by rfl) T.isinstance (by decide +kernel) (pa_cons (pv 1) (pa_cons (pe_bltn (v := .ty "bool") (by rfl) T.bool (by decide +kernel) rfl) pa_nil))) (pe_one (pe_cmpR (op_eqD hr.units) (pv 0) (pv 1) (nomark _))))))) pss_nil)
        (pss_one (ps_ret (pe_callTy call_bool1 (by rfl) T.bool (by decide +kernel) (pa_cons (pe_cmpR (op_eqD hr.units) (pv 0) (pv 1) (nomark _)) pa_nil)))))), ?_⟩
      have h1 := pv_leaf0 pd
      refine ⟨_, rfl, v, _, _, _, _, rfl, .ty "tuple", ty_dp hv, kit_tup (dp_noDct hv), isTupD d, rfl, ?_⟩
      rw [h1]
      refine iteF (iteF ?_)
      have h2 : (isTupD d && isTupD e) = false := by rw [h1]; rfl
      refine ⟨_, rfl, v, _, _, _, _, rfl, .ty "bool", ty_dp hv, kit_bool (dp_noDct hv), isBoolD d, rfl, ?_⟩
      cases b1 : isBoolD d with
      | true =>
        refine iteT (iteT ?_)
        refine ⟨_, rfl, v, _, _, _, _, rfl, .ty "bool", ty_dp hv, kit_bool (dp_noDct hv), isBoolD d, rfl, ?_⟩
        rw [b1]
        refine iteT ⟨_, rfl, u, _, _, _, _, rfl, .ty "bool", ty_dp hu, kit_bool (dp_noDct hu), isBoolD e, rfl, ?_⟩
        cases b2 : isBoolD e with
        | true =>
          refine iteT ⟨_, rfl, _, rfl, d, e, hv, hu, pv_shaped pd (by omega), pv_shaped pe (by omega), ?_⟩
          rw [← lik_bools pd pe b1 b2]
          exact k H (fun _ _ z => z)
        | false =>
          refine iteF ?_
          have := k H (fun _ _ z => z)
          rw [lik_bool1 pd pe (by rw [b1, b2]; decide)] at this
          exact this
      | false =>
        refine iteF ⟨_, rfl, u, _, _, _, _, rfl, .ty "bool", ty_dp hu, kit_bool (dp_noDct hu), isBoolD e, rfl, ?_⟩
        cases b2 : isBoolD e with
        | true =>
          refine iteT ?_
          refine ⟨_, rfl, v, _, _, _, _, rfl, .ty "bool", ty_dp hv, kit_bool (dp_noDct hv), isBoolD d, rfl, ?_⟩
          rw [b1]
          refine iteF ?_
          have := k H (fun _ _ z => z)
          rw [lik_bool1 pd pe (by rw [b1, b2]; decide)] at this
          exact this
        | false =>
          refine iteF ⟨_, rfl, _, rfl, d, e, hv, hu, pv_shaped pd (by omega), pv_shaped pe (by omega), .inr ⟨_, rfl, ?_⟩⟩
          rw [← lik_rest pd pe h2 b1 b2]
          exact k H (fun _ _ z => z)
  | succ n ih =>
    intro hn
    have ih := ih (by omega)
    refine F.ok scLike (fun vs H Q E h => ?_) (fun cdv A outer s H vs Q E hr h => ?_)
    · obtain ⟨v, u, d, e, rfl, _⟩ := h
      rfl
    · obtain ⟨v, u, d, e, rfl, hv, hu, pd, pe, k⟩ := h
      refine ⟨_, PSs.nox (pss_cons (ps_if (PW.pt (pw_and (pt_val (pe_callB call_isi (by rfl) T.isinstance (by decide +kernel) (pa_cons (pv 0) (pa_cons (pe_bltn (v := .ty "tuple") (by rfl) T.tuple (by decide +kernel) rfl) pa_nil)))) (pw_and1 (pt_val (pe_callB call_isi (by rfl) T.isinstance (by decide +kernel) (pa_cons (pv 1) (pa_cons (pe_bltn (v := .ty "tuple") (by rfl) T.tuple (by decide +kernel) rfl) pa_nil))))))) (pss_one (ps_ret (pe_and (pe_cmpR op_eq (pe_callB call_len_seq (by rfl) T.len boot_len (pa_cons (pv 0) pa_nil)) (pe_callB call_len_seq (by rfl) T.len boot_len (pa_cons (pv 1) pa_nil)) (nomark _)) (pe_one (pe_callB (cr_all rfl) (by rfl) T.all (by decide +kernel) (pa_cons (pe_lc (own := [("mine", 2), ("its", 3)]) (g := gTup K 2 (gCons (gName 2) (gCons (gName 3) gNil))) (tt := tYes) rfl scLike.nd (RZ.pi_zipA (by rfl) T.zip (pa_cons (pv 0) (pa_cons (pv 1) pa_nil))) (blkOk_by (N := ["one", "other", "mine", "its"]) (sc := defScope sLike) (by decide +kernel)) (fun _ _ _ _ _ => pg_tup (by rfl) (pgs_cons (pg_name (i := 2) scLike.nd rfl (Or.inl rfl)) (pgs_cons (pg_name (i := 3) scLike.nd rfl (Or.inl rfl)) pgs_nil))) (fun _ _ _ _ _ => pts_nil) (fun _ _ _ _ _ => (pe_call ih hr (by rfl) mgL F.kp b .nil pass0 (pa_cons (pv 2) (pa_cons (pv 3) pa_nil))))) pa_nil)))))) pss_nil)
        (pss_cons (ps_if (PW.pt (pw_or (pt_val (pe_callB call_isi (by rfl) T.isinstance (by decide +kernel) (pa_cons (pv 0) (pa_cons (pe_bltn (v := .ty "bool") (by rfl) T.bool (by decide +kernel) rfl) pa_nil)))) (pw_or1 (pt_val (pe_callB call_isi (by rfl) T.isinstance (by decide +kernel) (pa_cons (pv 1) (pa_cons (pe_bltn (v := .ty "bool") (by rfl) T.bool (by decide +kernel) rfl) pa_nil))))))) (pss_one (ps_ret (pe_and (pe_callB call_isi (by rfl) T.isinstance (by decide +kernel) (pa_cons (pv 0) (pa_cons (pe_bltn (v := .ty "bool") (by rfl) T.bool (by decide +kernel) rfl) pa_nil))) (pe_and (pe_callB call_isi (by rfl) T.isinstance (by decide +kernel) (pa_cons (pv 1) (pa_cons (pe_bltn (v := .ty "bool") (by rfl) T.bool (by decide +kernel) rfl) pa_nil))) (pe_one (pe_cmpR (op_eqD hr.units) (pv 0) (pv 1) (nomark _))))))) pss_nil)
        (pss_one (ps_ret (pe_callTy call_bool1 (by rfl) T.bool (by decide +kernel) (pa_cons (pe_cmpR (op_eqD hr.units) (pv 0) (pv 1) (nomark _)) pa_nil)))))), ?_⟩
      refine ⟨_, rfl, v, _, _, _, _, rfl, .ty "tuple", ty_dp hv, kit_tup (dp_noDct hv), isTupD d, rfl, ?_⟩
      cases h1 : isTupD d with
      | false =>
        refine iteF (iteF ?_)
        have h2 : (isTupD d && isTupD e) = false := by rw [h1]; rfl
        refine ⟨_, rfl, v, _, _, _, _, rfl, .ty "bool", ty_dp hv, kit_bool (dp_noDct hv), isBoolD d, rfl, ?_⟩
        cases b1 : isBoolD d with
        | true =>
          refine iteT (iteT ?_)
          refine ⟨_, rfl, v, _, _, _, _, rfl, .ty "bool", ty_dp hv, kit_bool (dp_noDct hv), isBoolD d, rfl, ?_⟩
          rw [b1]
          refine iteT ⟨_, rfl, u, _, _, _, _, rfl, .ty "bool", ty_dp hu, kit_bool (dp_noDct hu), isBoolD e, rfl, ?_⟩
          cases b2 : isBoolD e with
          | true =>
            refine iteT ⟨_, rfl, _, rfl, d, e, hv, hu, pv_shaped pd (by omega), pv_shaped pe (by omega), ?_⟩
            rw [← lik_bools pd pe b1 b2]
            exact k H (fun _ _ z => z)
          | false =>
            refine iteF ?_
            have := k H (fun _ _ z => z)
            rw [lik_bool1 pd pe (by rw [b1, b2]; decide)] at this
            exact this
        | false =>
          refine iteF ⟨_, rfl, u, _, _, _, _, rfl, .ty "bool", ty_dp hu, kit_bool (dp_noDct hu), isBoolD e, rfl, ?_⟩
          cases b2 : isBoolD e with
          | true =>
            refine iteT ?_
            refine ⟨_, rfl, v, _, _, _, _, rfl, .ty "bool", ty_dp hv, kit_bool (dp_noDct hv), isBoolD d, rfl, ?_⟩
            rw [b1]
            refine iteF ?_
            have := k H (fun _ _ z => z)
            rw [lik_bool1 pd pe (by rw [b1, b2]; decide)] at this
            exact this
          | false =>
            refine iteF ⟨_, rfl, _, rfl, d, e, hv, hu, pv_shaped pd (by omega), pv_shaped pe (by omega), .inr ⟨_, rfl, ?_⟩⟩
            rw [← lik_rest pd pe h2 b1 b2]
            exact k H (fun _ _ z => z)
      | true =>
        refine iteT ⟨_, rfl, u, _, _, _, _, rfl, .ty "tuple", ty_dp hu, kit_tup (dp_noDct hu), isTupD e, rfl, ?_⟩
        cases h3 : isTupD e with
        | false =>
          refine iteF ?_
          have h2 : (isTupD d && isTupD e) = false := by rw [h1, h3]; rfl
          refine ⟨_, rfl, v, _, _, _, _, rfl, .ty "bool", ty_dp hv, kit_bool (dp_noDct hv), isBoolD d, rfl, ?_⟩
          cases b1 : isBoolD d with
          | true =>
            refine iteT (iteT ?_)
            refine ⟨_, rfl, v, _, _, _, _, rfl, .ty "bool", ty_dp hv, kit_bool (dp_noDct hv), isBoolD d, rfl, ?_⟩
            rw [b1]
            refine iteT ⟨_, rfl, u, _, _, _, _, rfl, .ty "bool", ty_dp hu, kit_bool (dp_noDct hu), isBoolD e, rfl, ?_⟩
            cases b2 : isBoolD e with
            | true =>
              refine iteT ⟨_, rfl, _, rfl, d, e, hv, hu, pv_shaped pd (by omega), pv_shaped pe (by omega), ?_⟩
              rw [← lik_bools pd pe b1 b2]
              exact k H (fun _ _ z => z)
            | false =>
              refine iteF ?_
              have := k H (fun _ _ z => z)
              rw [lik_bool1 pd pe (by rw [b1, b2]; decide)] at this
              exact this
          | false =>
            refine iteF ⟨_, rfl, u, _, _, _, _, rfl, .ty "bool", ty_dp hu, kit_bool (dp_noDct hu), isBoolD e, rfl, ?_⟩
            cases b2 : isBoolD e with
            | true =>
              refine iteT ?_
              refine ⟨_, rfl, v, _, _, _, _, rfl, .ty "bool", ty_dp hv, kit_bool (dp_noDct hv), isBoolD d, rfl, ?_⟩
              rw [b1]
              refine iteF ?_
              have := k H (fun _ _ z => z)
              rw [lik_bool1 pd pe (by rw [b1, b2]; decide)] at this
              exact this
            | false =>
              refine iteF ⟨_, rfl, _, rfl, d, e, hv, hu, pv_shaped pd (by omega), pv_shaped pe (by omega), .inr ⟨_, rfl, ?_⟩⟩
              rw [← lik_rest pd pe h2 b1 b2]
              exact k H (fun _ _ z => z)
        | true =>
          refine iteT ?_
          cases hv with
          | @tup va xs ds qx ax =>
            cases hu with
            | @tup ua ys es qy ay =>
              have px := pv_tuple.mp pd
              have py := pv_tuple.mp pe
              have lx := dpa_len ax
              have ly := dpa_len ay
              refine ⟨_, rfl, va, xs, rfl, .inr qx, _, rfl, ua, ys, rfl, .inr qy, rfl, decide (V.int xs.length = V.int ys.length), rfl, ?_⟩
              have e0 : decide (V.int xs.length = V.int ys.length) = decide (ds.length = es.length) := by
                rw [Bool.eq_iff_iff, decide_eq_true_eq, decide_eq_true_eq, ← lx, ← ly]
                constructor
                · intro z
                  injection z with z
                  omega
                · intro z
                  rw [z]
              rw [e0]
              rw [lik_tuple pd pe] at k
              by_cases hlen : ds.length = es.length
              · rw [decide_eq_true hlen] at k ⊢
                refine iteT ⟨_, rfl, _, rfl, va, ua, xs, ys, rfl, .inr ⟨qx, qy, fun D hD => ?_⟩⟩
                refine lc_zipT (xs := xs) (ys := ys) (by omega) (fun i H' => Same H H' ∧ H' D = some (.lst ((((ds.zip es).take i).map fun q => lik q.1 q.2).map V.bl))) ⟨same_upd hD, upd_same⟩ (fun i H' f => ⟨sqt_same f.1 qx, sqt_same f.1 qy⟩) (fun i x y T H' hx hy f hT => ?_) (fun Hf f => ?_)
                · obtain ⟨dx, hdx, hxd⟩ := dpa_get ax hx
                  obtain ⟨dy, hdy, hyd⟩ := dpa_get ay hy
                  have hz : (ds.zip es)[i]? = some (dx, dy) := by rw [List.getElem?_zip_eq_some]; exact ⟨hdx, hdy⟩
                  have g1 : Same H (upd H' T (.tup [x, y])) := same_upd' f.1 hT
                  refine ⟨T, _, rfl, SqT.of upd_same, rfl, x, [y], rfl, y, [], rfl, rfl, rfl, _, rfl, _, rfl, x, y, dx, dy, rfl, dp_same g1 hxd, dp_same g1 hyd, px.2 _ (List.mem_of_getElem? hdx), py.2 _ (List.mem_of_getElem? hdy), fun H'' s'' => ?_⟩
                  have hTD : T ≠ D := fun z => by
                    rw [z, f.2] at hT
                    cases hT
                  refine ⟨_, s'' _ _ (by rw [upd_ne (fun z => hTD z.symm)]; exact f.2), ?_, ?_, ?_⟩
                  · rw [List.length_map, List.length_map, List.length_take, List.length_zip, sizeLine_eq]
                    have := px.1
                    omega
                  · intro c o hc
                    rw [upd_ne (ne_of_none hc hD)]
                    exact s'' _ _ (g1 _ _ hc)
                  · rw [upd_same, List.take_add_one, hz, List.map_append, List.map_append] <;> rfl
                · have hl2 : (ds.zip es).length = xs.length := by rw [List.length_zip]; omega
                  refine ⟨D, _, rfl, SqL.of f.2, ?_⟩
                  rw [← hl2, List.take_length]
                  have e2 : ((ds.zip es).map fun q => lik q.1 q.2).all id = (ds.zip es).all fun q => lik q.1 q.2 := by rw [List.all_map]; rfl
                  rw [e2]
                  exact k Hf f.1
              · rw [decide_eq_false hlen] at k ⊢
                exact iteF (k H fun _ _ z => z)
            | _ => cases h3
          | _ => cases h1
end
end K8
set_option Elab.async false
set_option linter.all false
set_option maxRecDepth 100000
set_option maxHeartbeats 4000000
namespace K8
open PySem PySem.Spec PyProof.Rows L2
/-- the j-th statement of the class at place i -/
def inCls (i j : Nat) : Stmt := match top i with
  | .ClassDef _ _ _ body _ _ _ _ _ _ _ => body.getD j (.Pass ⟨0, 0, 0, 0⟩)
  | s => s
abbrev sPInit : Stmt := inCls 23 2
abbrev sPEq : Stmt := inCls 23 3
abbrev sPBool : Stmt := inCls 23 4
section
variable {X : Cx}
/-- e.f as a target -/
def gFld (K : PySem.W.Frag) (ta : TE) (f : Str) : TG := fun y σ H Q => ta σ H fun x H2 => ∃ a C dx fs, x = .ref a ∧ H2 a = some (.ins C dx fs) ∧ Cls K C ∧ NoAttr K C f ∧ fs.length < 1000 ∧ Q σ (upd H2 a (.ins C dx (putF f y fs)))
theorem pg_fld {o : Expr} {f : Str} {pos : Pos} {ta : TE} (ho : PE X o ta) : PG X (.Attribute o f pos) (gFld X.K ta f) := by
  refine ⟨fun pins s σ H v u Q I r h => ?_⟩
  rw [assign_Attribute]
  refine wpAny_bind (wpAny_holding (thn (ho.run pins s σ H _ I h) fun ov s1 ⟨x, H1, I1, r1, a, C, dx, fs, ex, ea, c, n, l, q⟩ => ?_))
  subst ex
  obtain rfl : ov = Value.ref a := r1
  exact wpAny_bind (wpAny_standAt (wpAny_bind (wpAny_holding (setattr_ok I1 ea c n l r fun s2 I2 => wpAny_release ⟨σ, _, I2, q⟩))))
end
/-- what K holds of a paper's class: its word, its truth -/
structure PC (K : PySem.W.Frag) (Pa C : Addr) (wd : Str) (t : Bool) : Prop where
  cls : Cls K C
  own : NoAttr K C "own_parts"
  word : ∃ u, Con K C "WORD" (.str wd) u
  tru : ∃ u, Con K C "IS_TRUE" (.bl t) u
  kC : PySem.W.findIn K (.ref C) "__class__" = some (some (.builtin "object.__class__"))
  gC : PySem.W.specialIn K (.builtin "object.__class__") "__get__" = some (some (.builtin "getset_descriptor.__get__"))
  tC : PySem.W.takesIn K (.builtin "object.__class__") = some true
  mC : PySem.W.mroIn K C (.type "object") = some true
  isP : PySem.W.kitOne K (.ref C) (.ref Pa) = some true
theorem PC.ty {K : PySem.W.Frag} {Pa C a dx : Addr} {wd : Str} {t : Bool} {fs : List (Str × V)} {H : Hp} (c : PC K Pa C wd t) (e : H a = some (.ins C dx fs)) : TyX K H (.ref a) (.ref C) := .base (.ins e c.cls c.kC c.gC c.tC c.mC)
/-- a paper as it stands -/
structure IsP (K : PySem.W.Frag) (Pa : Addr) (H : Hp) (a C : Addr) (wd : Str) (t : Bool) (ds : List PyData) : Prop where
  pc : PC K Pa C wd t
  at_ : ∃ (dx : Addr) (fs : List (Str × V)) (pv : Addr) (xs : List V), H a = some (.ins C dx fs) ∧ fs.lookup ("own_parts" : Str) = some (.ref pv) ∧ fs.lookup ("WORD" : Str) = none ∧ fs.lookup ("IS_TRUE" : Str) = none ∧ SqT K H pv xs ∧ DpAll K H xs ds
  pv : pval 4 (.tuple ds) = true
/-- Paper.__init__, its parts in a tuple -/
def spPI (K : PySem.W.Frag) (n : Nat) : Sp := fun vs H Q _ => ∃ (x p C dx : Addr) (rest : List V) (ds : List PyData), vs = [.ref x, .ref p] ∧ H x = some (.ins C dx []) ∧ Cls K C ∧ NoAttr K C "own_parts" ∧ H p = some (.tup rest) ∧ DpAll K H rest ds ∧ SD n (.tuple ds) ∧
  ∀ (H1 : Hp) (pv : Addr) (xs : List V), Same H H1 → SqT K (nw H H1) pv xs → DpAll K (nw H H1) xs (ds.map fx) → Q .non (upd H1 x (.ins C dx [("own_parts", .ref pv)]))
/-- Paper.__init__(self, part, ..) -/
def spPaper (K : PySem.W.Frag) (n : Nat) : Sp := fun vs H Q _ => ∃ (x C dx : Addr) (rest : List V) (ds : List PyData), vs = .ref x :: rest ∧ rest.length ≤ 1000 ∧ H x = some (.ins C dx []) ∧ Cls K C ∧ NoAttr K C "own_parts" ∧ DpAll K H rest ds ∧ SD n (.tuple ds) ∧
  ∀ (H1 : Hp) (pv : Addr) (xs : List V), Same H H1 → SqT K (nw H H1) pv xs → DpAll K (nw H H1) xs (ds.map fx) → Q .non (upd H1 x (.ins C dx [("own_parts", .ref pv)]))
/-- Paper.__eq__ -/
def spPEq (K : PySem.W.Frag) (Pa : Addr) : Sp := fun vs H Q _ => ∃ (a C : Addr) (wd : Str) (t : Bool) (ds : List PyData) (y : V), vs = [.ref a, y] ∧ IsP K Pa H a C wd t ds ∧
  ((∃ ty, TyX K H y ty ∧ PySem.W.kitOne K ty (.ref Pa) = some false ∧ ∀ H', Same H H' → Q (.bl false) H') ∨
    ∃ (b C' : Addr) (wd' : Str) (t' : Bool) (es : List PyData), y = .ref b ∧ IsP K Pa H b C' wd' t' es ∧ ∀ H', Same H H' → Q (.bl (decide (wd = wd') && lik (.tuple ds) (.tuple es))) H')
def spPBool (K : PySem.W.Frag) (Pa : Addr) : Sp := fun vs H Q _ => ∃ (a C dx : Addr) (fs : List (Str × V)) (wd : Str) (t : Bool), vs = [.ref a] ∧ PC K Pa C wd t ∧ H a = some (.ins C dx fs) ∧ fs.lookup ("IS_TRUE" : Str) = none ∧ Q (.bl t) H
section
variable {P : Program} {w : World} {K : PySem.W.Frag} {mg : Str → Option Value} {base : Heap} {Pa : Addr}
theorem scPInit : FnScope ["self", "parts"] ((["self"] : List Str) ++ [("parts" : Str)]) (defScope sPInit) := ⟨rfl, rfl, rfl, by decide +kernel, rfl, by decide +kernel, by decide +kernel⟩
theorem scPEq : FnScope ["self", "other"] ["self", "other"] (defScope sPEq) := ⟨rfl, rfl, rfl, by decide +kernel, rfl, by decide +kernel, by decide +kernel⟩
theorem scPBool : FnScope ["self"] ["self"] (defScope sPBool) := ⟨rfl, rfl, rfl, by decide +kernel, rfl, by decide +kernel, by decide +kernel⟩
theorem ok_pbool {f : Addr} {fd : FuncData} (F : FnP K "__bool__" "Paper.__bool__" sPBool f fd) (T : Blt mg) : FnOk P w K mg base CX0 1 f fd ["self"] (spPBool K Pa) := by
  refine F.ok scPBool (fun vs H Q E h => ?_) (fun cdv A outer s H vs Q E hr h => ?_)
  · obtain ⟨a, C, dx, fs, wd, t, rfl, _⟩ := h
    rfl
  · obtain ⟨a, C, dx, fs, wd, t, rfl, c, e, l, k⟩ := h
    obtain ⟨u, cu⟩ := c.tru
    refine ⟨_, PSs.nox (pss_one (ps_ret (pe_callTy call_bool1 (by rfl) T.bool (by decide +kernel) (pa_cons (pe_con (pv 0) rfl) pa_nil)))), ?_⟩
    exact ⟨_, rfl, a, C, dx, fs, _, u, rfl, e, c.cls, cu, l, .inr ⟨t, rfl, k⟩⟩
theorem ok_peq {fL : Addr} {dL : FuncData} (KL : Kn P w K mg base 5 "is_like" ["one", "other"] (spLike K 4) fL dL) {f : Addr} {fd : FuncData} (F : FnP K "__eq__" "Paper.__eq__" sPEq f fd) (T : Blt mg) (mgP : mg "Paper" = some (.ref Pa)) : FnOk P w K mg base CX0 6 f fd ["self", "other"] (spPEq K Pa) := by
  refine F.ok scPEq (fun vs H Q E h => ?_) (fun cdv A outer s H vs Q E hr h => ?_)
  · obtain ⟨a, C, wd, t, ds, y, rfl, _⟩ := h
    rfl
  · obtain ⟨a, C, wd, t, ds, y, rfl, pa, h⟩ := h
    refine ⟨_, PSs.nox (pss_cons (ps_if (pt_not (pt_val (pe_callB call_isi (by rfl) T.isinstance (by decide +kernel) (pa_cons (pv 1) (pa_cons (pe_glob (v := .ref _) (by rfl) mgP rfl) pa_nil))))) (pss_one (ps_ret pe_bl)) pss_nil)
        (pss_one (ps_ret (pe_and (pe_cmpR op_eq (pe_con (pv 0) rfl) (pe_con (pv 1) rfl) (nomark _)) (pe_one (pe_call KL.ok hr (by rfl) KL.mg KL.kp KL.b .nil pass0 (pa_cons (pe_fld (pv 0) rfl) (pa_cons (pe_fld (pv 1) rfl) pa_nil)))))))), ?_⟩
    rcases h with ⟨ty, hty, hk, k⟩ | ⟨b, C', wd', t', es, rfl, pb, k⟩
    · refine ⟨_, rfl, y, _, _, _, _, rfl, .own Pa, hty, hk, false, rfl, ?_⟩
      exact iteT (k H fun _ _ z => z)
    · obtain ⟨dx, fs, pv, xs, e, l1, l2, l3, q, dq⟩ := pa.at_
      obtain ⟨dx', fs', pv', ys, e', m1, m2, m3, q', dq'⟩ := pb.at_
      obtain ⟨u, cu⟩ := pa.pc.word
      obtain ⟨u', cu'⟩ := pb.pc.word
      refine ⟨_, rfl, _, _, _, _, _, rfl, .own Pa, pb.pc.ty e', pb.pc.isP, true, rfl, ?_⟩
      refine iteF ?_
      refine ⟨_, rfl, a, C, dx, fs, _, u, rfl, e, pa.pc.cls, cu, l2, _, rfl, b, C', dx', fs', _, u', rfl, e', pb.pc.cls, cu', m2, rfl, _, rfl, ?_⟩
      have ed : decide (V.str wd = V.str wd') = decide (wd = wd') := by
        rw [Bool.eq_iff_iff, decide_eq_true_eq, decide_eq_true_eq]
        exact ⟨fun z => by injection z, fun z => by rw [z]⟩
      rw [ed]
      cases hw : decide (wd = wd') with
      | false =>
        rw [hw] at k
        exact iteF (k H fun _ _ z => z)
      | true =>
        rw [hw] at k
        refine iteT ⟨_, rfl, a, C, dx, fs, _, rfl, e, pa.pc.cls, pa.pc.own, l1, _, rfl, b, C', dx', fs', _, rfl, e', pb.pc.cls, pb.pc.own, m1, ?_⟩
        exact ⟨_, _, _, _, rfl, .tup q dq, .tup q' dq', pa.pv, pb.pv, k⟩
theorem ok_pinit {n : Nat} {fX : Addr} {dX : FuncData} (KX : Kn P w K mg base (n + 1) "fixed" ["value"] (spFix K n) fX dX) {f : Addr} {fd : FuncData} (F : FnP K "__init__" "Paper.__init__" sPInit f fd) : FnR P w K mg base CX0 (n + 2) f (spPaper K n) := by
  obtain ⟨oc, od, dV, kV, doc, pm, an, cdv, ct, osl, efd, lk, hcd, hD, _⟩ := F.ex
  subst efd
  have e0 : dV = .none := by
    rcases hD with ⟨_, z⟩ | ⟨z, _⟩
    · exact z
    · exact absurd rfl z
  subst e0
  refine FnR.imp (StX.fn_star (sp := spPI K n) (N := ["self", "parts"]) (ps := ["self"]) (pv := "parts") lk hcd scPInit (fun _ _ _ _ _ _ _ _ _ _ _ z => z) (StX.bind_star1 (B := fun us => bindArgs _ ⟨us, []⟩) (fun a => rfl) (fun a r rs => rfl)) (fun A outer s H vs Q E hr h => ?_)) (fun vs H Q E h => ?_)
  · obtain ⟨x, p, C, dx, rest, ds, rfl, hx, cl, na, hp, hd, sd, k⟩ := h
    refine ⟨_, PSs.nox (pss_one (ps_fld (pv 0) (pe_call KX.ok hr (by rfl) KX.mg KX.kp KX.b .nil pass0 (pa_cons (pv 1) pa_nil)) rfl)), ?_⟩
    refine ⟨_, rfl, _, _, rfl, .tup (SqT.of hp) hd, sd, fun v' H1 s1 hv => ?_⟩
    rw [fx_tuple] at hv
    cases hv with
    | @tup pv xs _ q dq =>
      refine ⟨_, rfl, x, C, dx, [], rfl, s1 _ _ hx, cl, na, by decide, ?_⟩
      exact k H1 pv xs s1 q dq
  · obtain ⟨x, C, dx, rest, ds, rfl, hl, hx, cl, na, hd, sd, k⟩ := h
    refine ⟨[.ref x], rest, rfl, rfl, by rw [sizeLine_eq]; omega, fun p hp => ?_⟩
    refine ⟨x, p, C, dx, rest, ds, rfl, same_upd hp _ _ hx, cl, na, upd_same, dpa_same (same_upd hp) hd, sd, fun H1 pv xs s1 q dq => ?_⟩
    exact k H1 pv xs ((same_upd hp).trans s1) (sqt_same (nw_sub (same_upd hp)) q) (dpa_same (nw_sub (same_upd hp)) dq)
end
end K8
set_option Elab.async false
set_option linter.all false
set_option maxRecDepth 100000
set_option maxHeartbeats 4000000
namespace K8
open PySem PySem.Spec PyProof.Rows L2 NdefX
/-- the attributes that follow the parts -/
def fldsOf : List Str → List V → List (Str × V) → List (Str × V)
  | n :: ns, v :: vs, fs => fldsOf ns vs (putF n v fs)
  | _, _, fs => fs
theorem putF_le {f : Str} {v : V} {m : Nat} : ∀ {fs : List (Str × V)}, fs.length ≤ m → (putF f v fs).length ≤ m + 1
  | [], _ => by simp [putF]
  | (g, x) :: r, h => by
    unfold putF
    split
    · exact Nat.le_succ_of_le h
    · cases m with
      | zero => exact absurd h (by simp)
      | succ m => exact Nat.succ_le_succ (putF_le (Nat.le_of_succ_le_succ h))
/-- what K holds of a class under Paper, for its own __init__ -/
structure SubC (K : PySem.W.Frag) (C fP : Addr) : Prop where
  cls : Cls K C
  own : NoAttr K C "own_parts"
  mro : PySem.W.mroIn K C (.ref C) = some true
  sup : PySem.W.ks_superIn K C C "__init__" = some (some (.ref fP))
  ty : PySem.W.typeIn K (.ref fP) = some (.type "function")
  fn : PySem.W.fnIn K fP = true
/-- __init__ of a class under Paper -/
def spSub (K : PySem.W.Frag) (C : Addr) (names : List Str) (n : Nat) : Sp := fun vs H Q _ => ∃ (x dx : Addr) (ws : List V) (ds : List PyData), vs = .ref x :: ws ∧ ws.length = names.length ∧ H x = some (.ins C dx []) ∧ DpAll K H ws ds ∧ SD n (.tuple ds) ∧
  ∀ (H1 H2 : Hp) (pv : Addr) (xs : List V), Same H H1 → (∀ b, b ≠ x → H2 b = H1 b) → H2 x = some (.ins C dx (fldsOf names xs [("own_parts", .ref pv)])) → SqT K (nw H H1) pv xs → DpAll K (nw H H1) xs (ds.map fx) → Q .non H2
theorem nw_off {H H1 : Hp} {x : Addr} {o u : HO} (h : H x = some u) : Same (nw H H1) (upd H1 x o) := fun b z e => by
  obtain ⟨h1, h2⟩ := nw_get e
  rw [upd_ne (fun y => by subst y; rw [h] at h1; cases h1)]
  exact h2
abbrev sI26 : Stmt := inCls 26 1
abbrev sI27 : Stmt := inCls 27 1
abbrev sI28 : Stmt := inCls 28 1
abbrev sI30 : Stmt := inCls 30 1
abbrev sI31 : Stmt := inCls 31 1
abbrev sI32 : Stmt := inCls 32 1
abbrev sI33 : Stmt := inCls 33 1
abbrev sI35 : Stmt := inCls 35 1
abbrev sI36 : Stmt := inCls 36 1
abbrev sI37 : Stmt := inCls 37 1
abbrev sI39 : Stmt := inCls 39 1
section
variable {P : Program} {w : World} {K : PySem.W.Frag} {mg : Str → Option Value} {base : Heap}
theorem sc26 : NScope ["self", "value", "bottom", "shares", "scale", "numbers", "__class__"] ["self", "value", "bottom", "shares", "scale", "numbers"] ["__class__"] (defScope sI26) := nscope_by (by decide +kernel)
theorem ok_i26 {n : Nat} {f fP cc cda C : Addr} {fd : FuncData} (T : SupF P K f "__init__" "Exactly.__init__" (defArgs sI26) (defBody sI26) (defScope sI26) cc cda C fd) (htop : (P.main.scope.names.lookup ("super" : Str)).isSome = false) (S : SubC K C fP) (hna : ∀ y ∈ (["value", "bottom", "shares", "scale", "numbers"] : List Str), NoAttr K C y)
    (KI : FnR P w K mg base CX0 (n + 2) fP (spPaper K n)) : FnOk P w K mg base CX0 (n + 3) f fd ["self", "value", "bottom", "shares", "scale", "numbers"] (spSub K C ["value", "bottom", "shares", "scale", "numbers"] n) := by
  refine fn_sup (N := ["self", "value", "bottom", "shares", "scale", "numbers", "__class__"]) T sc26 (fun vs H Q E h => ?_) (fun A outer s H vs Q E hr h => ?_)
  · obtain ⟨x, dx, ws, ds, rfl, hl, _⟩ := h
    exact congrArg Nat.succ hl
  · obtain ⟨x, dx, ws, ds, rfl, hl, hx, hd, sd, k⟩ := h
    match ws, hl, hd with
    | [v1, v2, v3, v4, v5], _, hd =>
    have le := dpa_len hd
    refine ⟨fun H2 => ∃ (H1 : Hp) (pv : Addr) (xs : List V), Same H H1 ∧ SqT K (nw H H1) pv xs ∧ DpAll K (nw H H1) xs (ds.map fx) ∧ H2 = upd H1 x (.ins C dx [("own_parts", .ref pv)]), _, fun s1 I => ?_, PSs.nox (pss_one (ps_asg (pe_fld (pv 0) rfl) (pg_tup rfl (pgs_cons (pg_fld (pv 0)) (pgs_cons (pg_fld (pv 0)) (pgs_cons (pg_fld (pv 0)) (pgs_cons (pg_fld (pv 0)) (pgs_cons (pg_fld (pv 0)) pgs_nil)))))))), ?_⟩
    · exact sup_own (k := n + 2) T I rfl rfl rfl rfl rfl rfl rfl rfl htop hx S.mro S.sup S.ty S.fn KI hr pass0 (pa_cons (pv 1) (pa_cons (pv 2) (pa_cons (pv 3) (pa_cons (pv 4) (pa_cons (pv 5) pa_nil))))) rfl rfl ⟨_, rfl, _, rfl, _, rfl, _, rfl, _, rfl, x, C, dx, [v1, v2, v3, v4, v5], ds, rfl, by show 5 ≤ 1000; decide, hx, S.cls, S.own, hd, sd, fun H1 pv xs s1 q dq => ⟨H1, pv, xs, s1, q, dq, rfl⟩⟩
    · rintro _ ⟨H1, pv, xs, s1, q, dq, rfl⟩
      have lx := dpa_len dq
      rw [List.length_map, ← le] at lx
      match xs, lx, q, dq with
      | [u1, u2, u3, u4, u5], _, q, dq =>
      refine ⟨_, rfl, x, C, dx, _, _, rfl, upd_same, S.cls, S.own, rfl, pv, _, rfl, sqt_same (nw_off hx) q, rfl, ?_⟩
      refine ⟨u1, _, rfl, _, rfl, x, C, dx, _, rfl, upd_same, S.cls, hna "value" (by simp), Nat.lt_of_le_of_lt (Nat.le_refl 1) (by decide), ?_⟩
      refine ⟨u2, _, rfl, _, rfl, x, C, dx, _, rfl, upd_same, S.cls, hna "bottom" (by simp), Nat.lt_of_le_of_lt (putF_le (Nat.le_refl 1)) (by decide), ?_⟩
      refine ⟨u3, _, rfl, _, rfl, x, C, dx, _, rfl, upd_same, S.cls, hna "shares" (by simp), Nat.lt_of_le_of_lt (putF_le (putF_le (Nat.le_refl 1))) (by decide), ?_⟩
      refine ⟨u4, _, rfl, _, rfl, x, C, dx, _, rfl, upd_same, S.cls, hna "scale" (by simp), Nat.lt_of_le_of_lt (putF_le (putF_le (putF_le (Nat.le_refl 1)))) (by decide), ?_⟩
      refine ⟨u5, _, rfl, _, rfl, x, C, dx, _, rfl, upd_same, S.cls, hna "numbers" (by simp), Nat.lt_of_le_of_lt (putF_le (putF_le (putF_le (putF_le (Nat.le_refl 1))))) (by decide), ?_⟩
      exact ⟨rfl, k H1 _ pv _ s1 (fun b hb => by rw [upd_ne hb, upd_ne hb, upd_ne hb, upd_ne hb, upd_ne hb, upd_ne hb]) upd_same q dq⟩
theorem sc27 : NScope ["self", "lot", "__class__"] ["self", "lot"] ["__class__"] (defScope sI27) := nscope_by (by decide +kernel)
theorem ok_i27 {n : Nat} {f fP cc cda C : Addr} {fd : FuncData} (T : SupF P K f "__init__" "Unbounded.__init__" (defArgs sI27) (defBody sI27) (defScope sI27) cc cda C fd) (htop : (P.main.scope.names.lookup ("super" : Str)).isSome = false) (S : SubC K C fP) (hna : ∀ y ∈ (["lot"] : List Str), NoAttr K C y)
    (KI : FnR P w K mg base CX0 (n + 2) fP (spPaper K n)) : FnOk P w K mg base CX0 (n + 3) f fd ["self", "lot"] (spSub K C ["lot"] n) := by
  refine fn_sup (N := ["self", "lot", "__class__"]) T sc27 (fun vs H Q E h => ?_) (fun A outer s H vs Q E hr h => ?_)
  · obtain ⟨x, dx, ws, ds, rfl, hl, _⟩ := h
    exact congrArg Nat.succ hl
  · obtain ⟨x, dx, ws, ds, rfl, hl, hx, hd, sd, k⟩ := h
    match ws, hl, hd with
    | [v1], _, hd =>
    have le := dpa_len hd
    refine ⟨fun H2 => ∃ (H1 : Hp) (pv : Addr) (xs : List V), Same H H1 ∧ SqT K (nw H H1) pv xs ∧ DpAll K (nw H H1) xs (ds.map fx) ∧ H2 = upd H1 x (.ins C dx [("own_parts", .ref pv)]), _, fun s1 I => ?_, PSs.nox (pss_one (ps_fld (pv 0) (pe_ix ix_tup (pe_fld (pv 0) rfl) pe_int (fun _ _ => rfl)) rfl)), ?_⟩
    · exact sup_own (k := n + 2) T I rfl rfl rfl rfl rfl rfl rfl rfl htop hx S.mro S.sup S.ty S.fn KI hr pass0 (pa_cons (pv 1) pa_nil) rfl rfl ⟨_, rfl, x, C, dx, [v1], ds, rfl, by show 1 ≤ 1000; decide, hx, S.cls, S.own, hd, sd, fun H1 pv xs s1 q dq => ⟨H1, pv, xs, s1, q, dq, rfl⟩⟩
    · rintro _ ⟨H1, pv, xs, s1, q, dq, rfl⟩
      have lx := dpa_len dq
      rw [List.length_map, ← le] at lx
      match xs, lx, q, dq with
      | [u1], _, q, dq =>
      refine ⟨_, rfl, x, C, dx, _, _, rfl, upd_same, S.cls, S.own, rfl, pv, _, 0, u1, rfl, rfl, sqt_same (nw_off hx) q, rfl, _, rfl, x, C, dx, _, rfl, upd_same, S.cls, hna "lot" (by simp), Nat.lt_of_le_of_lt (Nat.le_refl 1) (by decide), ?_⟩
      exact k H1 _ pv _ s1 (fun b hb => by rw [upd_ne hb, upd_ne hb]) upd_same q dq
theorem sc28 : NScope ["self", "name", "__class__"] ["self", "name"] ["__class__"] (defScope sI28) := nscope_by (by decide +kernel)
theorem ok_i28 {n : Nat} {f fP cc cda C : Addr} {fd : FuncData} (T : SupF P K f "__init__" "Barred.__init__" (defArgs sI28) (defBody sI28) (defScope sI28) cc cda C fd) (htop : (P.main.scope.names.lookup ("super" : Str)).isSome = false) (S : SubC K C fP) (hna : ∀ y ∈ (["name"] : List Str), NoAttr K C y)
    (KI : FnR P w K mg base CX0 (n + 2) fP (spPaper K n)) : FnOk P w K mg base CX0 (n + 3) f fd ["self", "name"] (spSub K C ["name"] n) := by
  refine fn_sup (N := ["self", "name", "__class__"]) T sc28 (fun vs H Q E h => ?_) (fun A outer s H vs Q E hr h => ?_)
  · obtain ⟨x, dx, ws, ds, rfl, hl, _⟩ := h
    exact congrArg Nat.succ hl
  · obtain ⟨x, dx, ws, ds, rfl, hl, hx, hd, sd, k⟩ := h
    match ws, hl, hd with
    | [v1], _, hd =>
    have le := dpa_len hd
    refine ⟨fun H2 => ∃ (H1 : Hp) (pv : Addr) (xs : List V), Same H H1 ∧ SqT K (nw H H1) pv xs ∧ DpAll K (nw H H1) xs (ds.map fx) ∧ H2 = upd H1 x (.ins C dx [("own_parts", .ref pv)]), _, fun s1 I => ?_, PSs.nox (pss_one (ps_fld (pv 0) (pe_ix ix_tup (pe_fld (pv 0) rfl) pe_int (fun _ _ => rfl)) rfl)), ?_⟩
    · exact sup_own (k := n + 2) T I rfl rfl rfl rfl rfl rfl rfl rfl htop hx S.mro S.sup S.ty S.fn KI hr pass0 (pa_cons (pv 1) pa_nil) rfl rfl ⟨_, rfl, x, C, dx, [v1], ds, rfl, by show 1 ≤ 1000; decide, hx, S.cls, S.own, hd, sd, fun H1 pv xs s1 q dq => ⟨H1, pv, xs, s1, q, dq, rfl⟩⟩
    · rintro _ ⟨H1, pv, xs, s1, q, dq, rfl⟩
      have lx := dpa_len dq
      rw [List.length_map, ← le] at lx
      match xs, lx, q, dq with
      | [u1], _, q, dq =>
      refine ⟨_, rfl, x, C, dx, _, _, rfl, upd_same, S.cls, S.own, rfl, pv, _, 0, u1, rfl, rfl, sqt_same (nw_off hx) q, rfl, _, rfl, x, C, dx, _, rfl, upd_same, S.cls, hna "name" (by simp), Nat.lt_of_le_of_lt (Nat.le_refl 1) (by decide), ?_⟩
      exact k H1 _ pv _ s1 (fun b hb => by rw [upd_ne hb, upd_ne hb]) upd_same q dq
theorem sc30 : NScope ["self", "threshold", "rows", "__class__"] ["self", "threshold", "rows"] ["__class__"] (defScope sI30) := nscope_by (by decide +kernel)
theorem ok_i30 {n : Nat} {f fP cc cda C : Addr} {fd : FuncData} (T : SupF P K f "__init__" "Plan.__init__" (defArgs sI30) (defBody sI30) (defScope sI30) cc cda C fd) (htop : (P.main.scope.names.lookup ("super" : Str)).isSome = false) (S : SubC K C fP) (hna : ∀ y ∈ (["threshold", "rows"] : List Str), NoAttr K C y)
    (KI : FnR P w K mg base CX0 (n + 2) fP (spPaper K n)) : FnOk P w K mg base CX0 (n + 3) f fd ["self", "threshold", "rows"] (spSub K C ["threshold", "rows"] n) := by
  refine fn_sup (N := ["self", "threshold", "rows", "__class__"]) T sc30 (fun vs H Q E h => ?_) (fun A outer s H vs Q E hr h => ?_)
  · obtain ⟨x, dx, ws, ds, rfl, hl, _⟩ := h
    exact congrArg Nat.succ hl
  · obtain ⟨x, dx, ws, ds, rfl, hl, hx, hd, sd, k⟩ := h
    match ws, hl, hd with
    | [v1, v2], _, hd =>
    have le := dpa_len hd
    refine ⟨fun H2 => ∃ (H1 : Hp) (pv : Addr) (xs : List V), Same H H1 ∧ SqT K (nw H H1) pv xs ∧ DpAll K (nw H H1) xs (ds.map fx) ∧ H2 = upd H1 x (.ins C dx [("own_parts", .ref pv)]), _, fun s1 I => ?_, PSs.nox (pss_one (ps_asg (pe_fld (pv 0) rfl) (pg_tup rfl (pgs_cons (pg_fld (pv 0)) (pgs_cons (pg_fld (pv 0)) pgs_nil))))), ?_⟩
    · exact sup_own (k := n + 2) T I rfl rfl rfl rfl rfl rfl rfl rfl htop hx S.mro S.sup S.ty S.fn KI hr pass0 (pa_cons (pv 1) (pa_cons (pv 2) pa_nil)) rfl rfl ⟨_, rfl, _, rfl, x, C, dx, [v1, v2], ds, rfl, by show 2 ≤ 1000; decide, hx, S.cls, S.own, hd, sd, fun H1 pv xs s1 q dq => ⟨H1, pv, xs, s1, q, dq, rfl⟩⟩
    · rintro _ ⟨H1, pv, xs, s1, q, dq, rfl⟩
      have lx := dpa_len dq
      rw [List.length_map, ← le] at lx
      match xs, lx, q, dq with
      | [u1, u2], _, q, dq =>
      refine ⟨_, rfl, x, C, dx, _, _, rfl, upd_same, S.cls, S.own, rfl, pv, _, rfl, sqt_same (nw_off hx) q, rfl, ?_⟩
      refine ⟨u1, _, rfl, _, rfl, x, C, dx, _, rfl, upd_same, S.cls, hna "threshold" (by simp), Nat.lt_of_le_of_lt (Nat.le_refl 1) (by decide), ?_⟩
      refine ⟨u2, _, rfl, _, rfl, x, C, dx, _, rfl, upd_same, S.cls, hna "rows" (by simp), Nat.lt_of_le_of_lt (putF_le (Nat.le_refl 1)) (by decide), ?_⟩
      exact ⟨rfl, k H1 _ pv _ s1 (fun b hb => by rw [upd_ne hb, upd_ne hb, upd_ne hb]) upd_same q dq⟩
theorem sc31 : NScope ["self", "value", "fence", "stretches", "__class__"] ["self", "value", "fence", "stretches"] ["__class__"] (defScope sI31) := nscope_by (by decide +kernel)
theorem ok_i31 {n : Nat} {f fP cc cda C : Addr} {fd : FuncData} (T : SupF P K f "__init__" "Wall.__init__" (defArgs sI31) (defBody sI31) (defScope sI31) cc cda C fd) (htop : (P.main.scope.names.lookup ("super" : Str)).isSome = false) (S : SubC K C fP) (hna : ∀ y ∈ (["value", "fence", "stretches"] : List Str), NoAttr K C y)
    (KI : FnR P w K mg base CX0 (n + 2) fP (spPaper K n)) : FnOk P w K mg base CX0 (n + 3) f fd ["self", "value", "fence", "stretches"] (spSub K C ["value", "fence", "stretches"] n) := by
  refine fn_sup (N := ["self", "value", "fence", "stretches", "__class__"]) T sc31 (fun vs H Q E h => ?_) (fun A outer s H vs Q E hr h => ?_)
  · obtain ⟨x, dx, ws, ds, rfl, hl, _⟩ := h
    exact congrArg Nat.succ hl
  · obtain ⟨x, dx, ws, ds, rfl, hl, hx, hd, sd, k⟩ := h
    match ws, hl, hd with
    | [v1, v2, v3], _, hd =>
    have le := dpa_len hd
    refine ⟨fun H2 => ∃ (H1 : Hp) (pv : Addr) (xs : List V), Same H H1 ∧ SqT K (nw H H1) pv xs ∧ DpAll K (nw H H1) xs (ds.map fx) ∧ H2 = upd H1 x (.ins C dx [("own_parts", .ref pv)]), _, fun s1 I => ?_, PSs.nox (pss_one (ps_asg (pe_fld (pv 0) rfl) (pg_tup rfl (pgs_cons (pg_fld (pv 0)) (pgs_cons (pg_fld (pv 0)) (pgs_cons (pg_fld (pv 0)) pgs_nil)))))), ?_⟩
    · exact sup_own (k := n + 2) T I rfl rfl rfl rfl rfl rfl rfl rfl htop hx S.mro S.sup S.ty S.fn KI hr pass0 (pa_cons (pv 1) (pa_cons (pv 2) (pa_cons (pv 3) pa_nil))) rfl rfl ⟨_, rfl, _, rfl, _, rfl, x, C, dx, [v1, v2, v3], ds, rfl, by show 3 ≤ 1000; decide, hx, S.cls, S.own, hd, sd, fun H1 pv xs s1 q dq => ⟨H1, pv, xs, s1, q, dq, rfl⟩⟩
    · rintro _ ⟨H1, pv, xs, s1, q, dq, rfl⟩
      have lx := dpa_len dq
      rw [List.length_map, ← le] at lx
      match xs, lx, q, dq with
      | [u1, u2, u3], _, q, dq =>
      refine ⟨_, rfl, x, C, dx, _, _, rfl, upd_same, S.cls, S.own, rfl, pv, _, rfl, sqt_same (nw_off hx) q, rfl, ?_⟩
      refine ⟨u1, _, rfl, _, rfl, x, C, dx, _, rfl, upd_same, S.cls, hna "value" (by simp), Nat.lt_of_le_of_lt (Nat.le_refl 1) (by decide), ?_⟩
      refine ⟨u2, _, rfl, _, rfl, x, C, dx, _, rfl, upd_same, S.cls, hna "fence" (by simp), Nat.lt_of_le_of_lt (putF_le (Nat.le_refl 1)) (by decide), ?_⟩
      refine ⟨u3, _, rfl, _, rfl, x, C, dx, _, rfl, upd_same, S.cls, hna "stretches" (by simp), Nat.lt_of_le_of_lt (putF_le (putF_le (Nat.le_refl 1))) (by decide), ?_⟩
      exact ⟨rfl, k H1 _ pv _ s1 (fun b hb => by rw [upd_ne hb, upd_ne hb, upd_ne hb, upd_ne hb]) upd_same q dq⟩
theorem sc32 : NScope ["self", "lots", "bars", "__class__"] ["self", "lots", "bars"] ["__class__"] (defScope sI32) := nscope_by (by decide +kernel)
theorem ok_i32 {n : Nat} {f fP cc cda C : Addr} {fd : FuncData} (T : SupF P K f "__init__" "Bare.__init__" (defArgs sI32) (defBody sI32) (defScope sI32) cc cda C fd) (htop : (P.main.scope.names.lookup ("super" : Str)).isSome = false) (S : SubC K C fP) (hna : ∀ y ∈ (["lots", "bars"] : List Str), NoAttr K C y)
    (KI : FnR P w K mg base CX0 (n + 2) fP (spPaper K n)) : FnOk P w K mg base CX0 (n + 3) f fd ["self", "lots", "bars"] (spSub K C ["lots", "bars"] n) := by
  refine fn_sup (N := ["self", "lots", "bars", "__class__"]) T sc32 (fun vs H Q E h => ?_) (fun A outer s H vs Q E hr h => ?_)
  · obtain ⟨x, dx, ws, ds, rfl, hl, _⟩ := h
    exact congrArg Nat.succ hl
  · obtain ⟨x, dx, ws, ds, rfl, hl, hx, hd, sd, k⟩ := h
    match ws, hl, hd with
    | [v1, v2], _, hd =>
    have le := dpa_len hd
    refine ⟨fun H2 => ∃ (H1 : Hp) (pv : Addr) (xs : List V), Same H H1 ∧ SqT K (nw H H1) pv xs ∧ DpAll K (nw H H1) xs (ds.map fx) ∧ H2 = upd H1 x (.ins C dx [("own_parts", .ref pv)]), _, fun s1 I => ?_, PSs.nox (pss_one (ps_asg (pe_fld (pv 0) rfl) (pg_tup rfl (pgs_cons (pg_fld (pv 0)) (pgs_cons (pg_fld (pv 0)) pgs_nil))))), ?_⟩
    · exact sup_own (k := n + 2) T I rfl rfl rfl rfl rfl rfl rfl rfl htop hx S.mro S.sup S.ty S.fn KI hr pass0 (pa_cons (pv 1) (pa_cons (pv 2) pa_nil)) rfl rfl ⟨_, rfl, _, rfl, x, C, dx, [v1, v2], ds, rfl, by show 2 ≤ 1000; decide, hx, S.cls, S.own, hd, sd, fun H1 pv xs s1 q dq => ⟨H1, pv, xs, s1, q, dq, rfl⟩⟩
    · rintro _ ⟨H1, pv, xs, s1, q, dq, rfl⟩
      have lx := dpa_len dq
      rw [List.length_map, ← le] at lx
      match xs, lx, q, dq with
      | [u1, u2], _, q, dq =>
      refine ⟨_, rfl, x, C, dx, _, _, rfl, upd_same, S.cls, S.own, rfl, pv, _, rfl, sqt_same (nw_off hx) q, rfl, ?_⟩
      refine ⟨u1, _, rfl, _, rfl, x, C, dx, _, rfl, upd_same, S.cls, hna "lots" (by simp), Nat.lt_of_le_of_lt (Nat.le_refl 1) (by decide), ?_⟩
      refine ⟨u2, _, rfl, _, rfl, x, C, dx, _, rfl, upd_same, S.cls, hna "bars" (by simp), Nat.lt_of_le_of_lt (putF_le (Nat.le_refl 1)) (by decide), ?_⟩
      exact ⟨rfl, k H1 _ pv _ s1 (fun b hb => by rw [upd_ne hb, upd_ne hb, upd_ne hb]) upd_same q dq⟩
theorem sc33 : NScope ["self", "value", "plan", "wall", "__class__"] ["self", "value", "plan", "wall"] ["__class__"] (defScope sI33) := nscope_by (by decide +kernel)
theorem ok_i33 {n : Nat} {f fP cc cda C : Addr} {fd : FuncData} (T : SupF P K f "__init__" "Best.__init__" (defArgs sI33) (defBody sI33) (defScope sI33) cc cda C fd) (htop : (P.main.scope.names.lookup ("super" : Str)).isSome = false) (S : SubC K C fP) (hna : ∀ y ∈ (["value", "plan", "wall"] : List Str), NoAttr K C y)
    (KI : FnR P w K mg base CX0 (n + 2) fP (spPaper K n)) : FnOk P w K mg base CX0 (n + 3) f fd ["self", "value", "plan", "wall"] (spSub K C ["value", "plan", "wall"] n) := by
  refine fn_sup (N := ["self", "value", "plan", "wall", "__class__"]) T sc33 (fun vs H Q E h => ?_) (fun A outer s H vs Q E hr h => ?_)
  · obtain ⟨x, dx, ws, ds, rfl, hl, _⟩ := h
    exact congrArg Nat.succ hl
  · obtain ⟨x, dx, ws, ds, rfl, hl, hx, hd, sd, k⟩ := h
    match ws, hl, hd with
    | [v1, v2, v3], _, hd =>
    have le := dpa_len hd
    refine ⟨fun H2 => ∃ (H1 : Hp) (pv : Addr) (xs : List V), Same H H1 ∧ SqT K (nw H H1) pv xs ∧ DpAll K (nw H H1) xs (ds.map fx) ∧ H2 = upd H1 x (.ins C dx [("own_parts", .ref pv)]), _, fun s1 I => ?_, PSs.nox (pss_one (ps_asg (pe_fld (pv 0) rfl) (pg_tup rfl (pgs_cons (pg_fld (pv 0)) (pgs_cons (pg_fld (pv 0)) (pgs_cons (pg_fld (pv 0)) pgs_nil)))))), ?_⟩
    · exact sup_own (k := n + 2) T I rfl rfl rfl rfl rfl rfl rfl rfl htop hx S.mro S.sup S.ty S.fn KI hr pass0 (pa_cons (pv 1) (pa_cons (pv 2) (pa_cons (pv 3) pa_nil))) rfl rfl ⟨_, rfl, _, rfl, _, rfl, x, C, dx, [v1, v2, v3], ds, rfl, by show 3 ≤ 1000; decide, hx, S.cls, S.own, hd, sd, fun H1 pv xs s1 q dq => ⟨H1, pv, xs, s1, q, dq, rfl⟩⟩
    · rintro _ ⟨H1, pv, xs, s1, q, dq, rfl⟩
      have lx := dpa_len dq
      rw [List.length_map, ← le] at lx
      match xs, lx, q, dq with
      | [u1, u2, u3], _, q, dq =>
      refine ⟨_, rfl, x, C, dx, _, _, rfl, upd_same, S.cls, S.own, rfl, pv, _, rfl, sqt_same (nw_off hx) q, rfl, ?_⟩
      refine ⟨u1, _, rfl, _, rfl, x, C, dx, _, rfl, upd_same, S.cls, hna "value" (by simp), Nat.lt_of_le_of_lt (Nat.le_refl 1) (by decide), ?_⟩
      refine ⟨u2, _, rfl, _, rfl, x, C, dx, _, rfl, upd_same, S.cls, hna "plan" (by simp), Nat.lt_of_le_of_lt (putF_le (Nat.le_refl 1)) (by decide), ?_⟩
      refine ⟨u3, _, rfl, _, rfl, x, C, dx, _, rfl, upd_same, S.cls, hna "wall" (by simp), Nat.lt_of_le_of_lt (putF_le (putF_le (Nat.le_refl 1))) (by decide), ?_⟩
      exact ⟨rfl, k H1 _ pv _ s1 (fun b hb => by rw [upd_ne hb, upd_ne hb, upd_ne hb, upd_ne hb]) upd_same q dq⟩
theorem sc35 : NScope ["self", "rows", "__class__"] ["self", "rows"] ["__class__"] (defScope sI35) := nscope_by (by decide +kernel)
theorem ok_i35 {n : Nat} {f fP cc cda C : Addr} {fd : FuncData} (T : SupF P K f "__init__" "Keeps.__init__" (defArgs sI35) (defBody sI35) (defScope sI35) cc cda C fd) (htop : (P.main.scope.names.lookup ("super" : Str)).isSome = false) (S : SubC K C fP) (hna : ∀ y ∈ (["rows"] : List Str), NoAttr K C y)
    (KI : FnR P w K mg base CX0 (n + 2) fP (spPaper K n)) : FnOk P w K mg base CX0 (n + 3) f fd ["self", "rows"] (spSub K C ["rows"] n) := by
  refine fn_sup (N := ["self", "rows", "__class__"]) T sc35 (fun vs H Q E h => ?_) (fun A outer s H vs Q E hr h => ?_)
  · obtain ⟨x, dx, ws, ds, rfl, hl, _⟩ := h
    exact congrArg Nat.succ hl
  · obtain ⟨x, dx, ws, ds, rfl, hl, hx, hd, sd, k⟩ := h
    match ws, hl, hd with
    | [v1], _, hd =>
    have le := dpa_len hd
    refine ⟨fun H2 => ∃ (H1 : Hp) (pv : Addr) (xs : List V), Same H H1 ∧ SqT K (nw H H1) pv xs ∧ DpAll K (nw H H1) xs (ds.map fx) ∧ H2 = upd H1 x (.ins C dx [("own_parts", .ref pv)]), _, fun s1 I => ?_, PSs.nox (pss_one (ps_fld (pv 0) (pe_ix ix_tup (pe_fld (pv 0) rfl) pe_int (fun _ _ => rfl)) rfl)), ?_⟩
    · exact sup_own (k := n + 2) T I rfl rfl rfl rfl rfl rfl rfl rfl htop hx S.mro S.sup S.ty S.fn KI hr pass0 (pa_cons (pv 1) pa_nil) rfl rfl ⟨_, rfl, x, C, dx, [v1], ds, rfl, by show 1 ≤ 1000; decide, hx, S.cls, S.own, hd, sd, fun H1 pv xs s1 q dq => ⟨H1, pv, xs, s1, q, dq, rfl⟩⟩
    · rintro _ ⟨H1, pv, xs, s1, q, dq, rfl⟩
      have lx := dpa_len dq
      rw [List.length_map, ← le] at lx
      match xs, lx, q, dq with
      | [u1], _, q, dq =>
      refine ⟨_, rfl, x, C, dx, _, _, rfl, upd_same, S.cls, S.own, rfl, pv, _, 0, u1, rfl, rfl, sqt_same (nw_off hx) q, rfl, _, rfl, x, C, dx, _, rfl, upd_same, S.cls, hna "rows" (by simp), Nat.lt_of_le_of_lt (Nat.le_refl 1) (by decide), ?_⟩
      exact k H1 _ pv _ s1 (fun b hb => by rw [upd_ne hb, upd_ne hb]) upd_same q dq
theorem sc36 : NScope ["self", "statement", "branch", "scale", "numbers", "__class__"] ["self", "statement", "branch", "scale", "numbers"] ["__class__"] (defScope sI36) := nscope_by (by decide +kernel)
theorem ok_i36 {n : Nat} {f fP cc cda C : Addr} {fd : FuncData} (T : SupF P K f "__init__" "Slow.__init__" (defArgs sI36) (defBody sI36) (defScope sI36) cc cda C fd) (htop : (P.main.scope.names.lookup ("super" : Str)).isSome = false) (S : SubC K C fP) (hna : ∀ y ∈ (["statement", "branch", "scale", "numbers"] : List Str), NoAttr K C y)
    (KI : FnR P w K mg base CX0 (n + 2) fP (spPaper K n)) : FnOk P w K mg base CX0 (n + 3) f fd ["self", "statement", "branch", "scale", "numbers"] (spSub K C ["statement", "branch", "scale", "numbers"] n) := by
  refine fn_sup (N := ["self", "statement", "branch", "scale", "numbers", "__class__"]) T sc36 (fun vs H Q E h => ?_) (fun A outer s H vs Q E hr h => ?_)
  · obtain ⟨x, dx, ws, ds, rfl, hl, _⟩ := h
    exact congrArg Nat.succ hl
  · obtain ⟨x, dx, ws, ds, rfl, hl, hx, hd, sd, k⟩ := h
    match ws, hl, hd with
    | [v1, v2, v3, v4], _, hd =>
    have le := dpa_len hd
    refine ⟨fun H2 => ∃ (H1 : Hp) (pv : Addr) (xs : List V), Same H H1 ∧ SqT K (nw H H1) pv xs ∧ DpAll K (nw H H1) xs (ds.map fx) ∧ H2 = upd H1 x (.ins C dx [("own_parts", .ref pv)]), _, fun s1 I => ?_, PSs.nox (pss_one (ps_asg (pe_fld (pv 0) rfl) (pg_tup rfl (pgs_cons (pg_fld (pv 0)) (pgs_cons (pg_fld (pv 0)) (pgs_cons (pg_fld (pv 0)) (pgs_cons (pg_fld (pv 0)) pgs_nil))))))), ?_⟩
    · exact sup_own (k := n + 2) T I rfl rfl rfl rfl rfl rfl rfl rfl htop hx S.mro S.sup S.ty S.fn KI hr pass0 (pa_cons (pv 1) (pa_cons (pv 2) (pa_cons (pv 3) (pa_cons (pv 4) pa_nil)))) rfl rfl ⟨_, rfl, _, rfl, _, rfl, _, rfl, x, C, dx, [v1, v2, v3, v4], ds, rfl, by show 4 ≤ 1000; decide, hx, S.cls, S.own, hd, sd, fun H1 pv xs s1 q dq => ⟨H1, pv, xs, s1, q, dq, rfl⟩⟩
    · rintro _ ⟨H1, pv, xs, s1, q, dq, rfl⟩
      have lx := dpa_len dq
      rw [List.length_map, ← le] at lx
      match xs, lx, q, dq with
      | [u1, u2, u3, u4], _, q, dq =>
      refine ⟨_, rfl, x, C, dx, _, _, rfl, upd_same, S.cls, S.own, rfl, pv, _, rfl, sqt_same (nw_off hx) q, rfl, ?_⟩
      refine ⟨u1, _, rfl, _, rfl, x, C, dx, _, rfl, upd_same, S.cls, hna "statement" (by simp), Nat.lt_of_le_of_lt (Nat.le_refl 1) (by decide), ?_⟩
      refine ⟨u2, _, rfl, _, rfl, x, C, dx, _, rfl, upd_same, S.cls, hna "branch" (by simp), Nat.lt_of_le_of_lt (putF_le (Nat.le_refl 1)) (by decide), ?_⟩
      refine ⟨u3, _, rfl, _, rfl, x, C, dx, _, rfl, upd_same, S.cls, hna "scale" (by simp), Nat.lt_of_le_of_lt (putF_le (putF_le (Nat.le_refl 1))) (by decide), ?_⟩
      refine ⟨u4, _, rfl, _, rfl, x, C, dx, _, rfl, upd_same, S.cls, hna "numbers" (by simp), Nat.lt_of_le_of_lt (putF_le (putF_le (putF_le (Nat.le_refl 1)))) (by decide), ?_⟩
      exact ⟨rfl, k H1 _ pv _ s1 (fun b hb => by rw [upd_ne hb, upd_ne hb, upd_ne hb, upd_ne hb, upd_ne hb]) upd_same q dq⟩
theorem sc37 : NScope ["self", "statement", "branch", "lot", "__class__"] ["self", "statement", "branch", "lot"] ["__class__"] (defScope sI37) := nscope_by (by decide +kernel)
theorem ok_i37 {n : Nat} {f fP cc cda C : Addr} {fd : FuncData} (T : SupF P K f "__init__" "Loose.__init__" (defArgs sI37) (defBody sI37) (defScope sI37) cc cda C fd) (htop : (P.main.scope.names.lookup ("super" : Str)).isSome = false) (S : SubC K C fP) (hna : ∀ y ∈ (["statement", "branch", "lot"] : List Str), NoAttr K C y)
    (KI : FnR P w K mg base CX0 (n + 2) fP (spPaper K n)) : FnOk P w K mg base CX0 (n + 3) f fd ["self", "statement", "branch", "lot"] (spSub K C ["statement", "branch", "lot"] n) := by
  refine fn_sup (N := ["self", "statement", "branch", "lot", "__class__"]) T sc37 (fun vs H Q E h => ?_) (fun A outer s H vs Q E hr h => ?_)
  · obtain ⟨x, dx, ws, ds, rfl, hl, _⟩ := h
    exact congrArg Nat.succ hl
  · obtain ⟨x, dx, ws, ds, rfl, hl, hx, hd, sd, k⟩ := h
    match ws, hl, hd with
    | [v1, v2, v3], _, hd =>
    have le := dpa_len hd
    refine ⟨fun H2 => ∃ (H1 : Hp) (pv : Addr) (xs : List V), Same H H1 ∧ SqT K (nw H H1) pv xs ∧ DpAll K (nw H H1) xs (ds.map fx) ∧ H2 = upd H1 x (.ins C dx [("own_parts", .ref pv)]), _, fun s1 I => ?_, PSs.nox (pss_one (ps_asg (pe_fld (pv 0) rfl) (pg_tup rfl (pgs_cons (pg_fld (pv 0)) (pgs_cons (pg_fld (pv 0)) (pgs_cons (pg_fld (pv 0)) pgs_nil)))))), ?_⟩
    · exact sup_own (k := n + 2) T I rfl rfl rfl rfl rfl rfl rfl rfl htop hx S.mro S.sup S.ty S.fn KI hr pass0 (pa_cons (pv 1) (pa_cons (pv 2) (pa_cons (pv 3) pa_nil))) rfl rfl ⟨_, rfl, _, rfl, _, rfl, x, C, dx, [v1, v2, v3], ds, rfl, by show 3 ≤ 1000; decide, hx, S.cls, S.own, hd, sd, fun H1 pv xs s1 q dq => ⟨H1, pv, xs, s1, q, dq, rfl⟩⟩
    · rintro _ ⟨H1, pv, xs, s1, q, dq, rfl⟩
      have lx := dpa_len dq
      rw [List.length_map, ← le] at lx
      match xs, lx, q, dq with
      | [u1, u2, u3], _, q, dq =>
      refine ⟨_, rfl, x, C, dx, _, _, rfl, upd_same, S.cls, S.own, rfl, pv, _, rfl, sqt_same (nw_off hx) q, rfl, ?_⟩
      refine ⟨u1, _, rfl, _, rfl, x, C, dx, _, rfl, upd_same, S.cls, hna "statement" (by simp), Nat.lt_of_le_of_lt (Nat.le_refl 1) (by decide), ?_⟩
      refine ⟨u2, _, rfl, _, rfl, x, C, dx, _, rfl, upd_same, S.cls, hna "branch" (by simp), Nat.lt_of_le_of_lt (putF_le (Nat.le_refl 1)) (by decide), ?_⟩
      refine ⟨u3, _, rfl, _, rfl, x, C, dx, _, rfl, upd_same, S.cls, hna "lot" (by simp), Nat.lt_of_le_of_lt (putF_le (putF_le (Nat.le_refl 1))) (by decide), ?_⟩
      exact ⟨rfl, k H1 _ pv _ s1 (fun b hb => by rw [upd_ne hb, upd_ne hb, upd_ne hb, upd_ne hb]) upd_same q dq⟩
theorem sc39 : NScope ["self", "fits", "__class__"] ["self", "fits"] ["__class__"] (defScope sI39) := nscope_by (by decide +kernel)
theorem ok_i39 {n : Nat} {f fP cc cda C : Addr} {fd : FuncData} (T : SupF P K f "__init__" "Right.__init__" (defArgs sI39) (defBody sI39) (defScope sI39) cc cda C fd) (htop : (P.main.scope.names.lookup ("super" : Str)).isSome = false) (S : SubC K C fP) (hna : ∀ y ∈ (["fits"] : List Str), NoAttr K C y)
    (KI : FnR P w K mg base CX0 (n + 2) fP (spPaper K n)) : FnOk P w K mg base CX0 (n + 3) f fd ["self", "fits"] (spSub K C ["fits"] n) := by
  refine fn_sup (N := ["self", "fits", "__class__"]) T sc39 (fun vs H Q E h => ?_) (fun A outer s H vs Q E hr h => ?_)
  · obtain ⟨x, dx, ws, ds, rfl, hl, _⟩ := h
    exact congrArg Nat.succ hl
  · obtain ⟨x, dx, ws, ds, rfl, hl, hx, hd, sd, k⟩ := h
    match ws, hl, hd with
    | [v1], _, hd =>
    have le := dpa_len hd
    refine ⟨fun H2 => ∃ (H1 : Hp) (pv : Addr) (xs : List V), Same H H1 ∧ SqT K (nw H H1) pv xs ∧ DpAll K (nw H H1) xs (ds.map fx) ∧ H2 = upd H1 x (.ins C dx [("own_parts", .ref pv)]), _, fun s1 I => ?_, PSs.nox (pss_one (ps_fld (pv 0) (pe_ix ix_tup (pe_fld (pv 0) rfl) pe_int (fun _ _ => rfl)) rfl)), ?_⟩
    · exact sup_own (k := n + 2) T I rfl rfl rfl rfl rfl rfl rfl rfl htop hx S.mro S.sup S.ty S.fn KI hr pass0 (pa_cons (pv 1) pa_nil) rfl rfl ⟨_, rfl, x, C, dx, [v1], ds, rfl, by show 1 ≤ 1000; decide, hx, S.cls, S.own, hd, sd, fun H1 pv xs s1 q dq => ⟨H1, pv, xs, s1, q, dq, rfl⟩⟩
    · rintro _ ⟨H1, pv, xs, s1, q, dq, rfl⟩
      have lx := dpa_len dq
      rw [List.length_map, ← le] at lx
      match xs, lx, q, dq with
      | [u1], _, q, dq =>
      refine ⟨_, rfl, x, C, dx, _, _, rfl, upd_same, S.cls, S.own, rfl, pv, _, 0, u1, rfl, rfl, sqt_same (nw_off hx) q, rfl, _, rfl, x, C, dx, _, rfl, upd_same, S.cls, hna "fits" (by simp), Nat.lt_of_le_of_lt (Nat.le_refl 1) (by decide), ?_⟩
      exact k H1 _ pv _ s1 (fun b hb => by rw [upd_ne hb, upd_ne hb]) upd_same q dq
end
end K8
set_option Elab.async false
set_option linter.all false
set_option maxRecDepth 100000
set_option maxHeartbeats 4000000
namespace K8
open PySem PySem.Spec PyProof.Rows L2 NdefX
/-- what K holds of an error class with an own __init__ -/
structure ErrC (K : PySem.W.Frag) (C : Addr) : Prop where
  oex : OexC K C
  mro : PySem.W.mroIn K C (.ref C) = some true
  sup : PySem.W.ks_superIn K C C "__init__" = some (some (.builtin "ValueError.__init__"))
  sub : PySem.W.subIn K (.ref C) (.type "ValueError") = some true
/-- __init__ of such a class: the fields in its dict, the last one ahead -/
def spErr (C : Addr) (names : List Str) : Sp := fun vs H Q _ => ∃ (x : Addr) (ws : List V), vs = .ref x :: ws ∧ ws.length = names.length ∧ H x = some (exo x C none) ∧
  ∀ (dx : Addr) (H2 : Hp), H dx = none → dx ≠ x → (∀ b, b ≠ x → b ≠ dx → H2 b = H b) → H2 x = some (exo x C (some dx)) → H2 dx = some (exd dx (names.zip ws).reverse) → Q .non H2
abbrev sE2 : Stmt := inCls 2 0
abbrev sE3 : Stmt := inCls 3 0
abbrev sE4 : Stmt := inCls 4 0
abbrev sE5 : Stmt := inCls 5 0
abbrev sE6 : Stmt := inCls 6 0
abbrev sE7 : Stmt := inCls 7 0
abbrev sE8 : Stmt := inCls 8 0
abbrev sE9 : Stmt := inCls 9 0
abbrev sE10 : Stmt := inCls 10 0
abbrev sE11 : Stmt := inCls 11 0
abbrev sE12 : Stmt := inCls 12 0
abbrev sE13 : Stmt := inCls 13 0
abbrev sE14 : Stmt := inCls 14 0
abbrev sE15 : Stmt := inCls 15 0
abbrev sE16 : Stmt := inCls 16 0
abbrev sE17 : Stmt := inCls 17 0
abbrev sE18 : Stmt := inCls 18 0
abbrev sE19 : Stmt := inCls 19 0
section
variable {P : Program} {w : World} {K : PySem.W.Frag} {mg : Str → Option Value} {base : Heap}
theorem sce2 : NScope ["self", "part", "__class__"] ["self", "part"] ["__class__"] (defScope sE2) := nscope_by (by decide +kernel)
theorem ok_e2 {f cc cda C : Addr} {fd : FuncData} (T : SupF P K f "__init__" "BadTable.__init__" (defArgs sE2) (defBody sE2) (defScope sE2) cc cda C fd) (htop : (P.main.scope.names.lookup ("super" : Str)).isSome = false) (S : ErrC K C) (hna : ∀ y ∈ (["part"] : List Str), NoAttr K C y) :
    FnOk P w K mg base CX0 1 f fd ["self", "part"] (spErr C ["part"]) := by
  refine fn_sup (N := ["self", "part", "__class__"]) T sce2 (fun vs H Q E h => ?_) (fun A outer s H vs Q E hr h => ?_)
  · obtain ⟨x, ws, rfl, hl, _⟩ := h
    exact congrArg Nat.succ hl
  · obtain ⟨x, ws, rfl, hl, hx, k⟩ := h
    match ws, hl with
    | [v1], _ =>
    refine ⟨fun H2 => H2 = H, _, fun s1 I => ?_, PSs.nox (pss_one (ps_ost (pv 0) (pv 1))), ?_⟩
    · exact sup_exc T I rfl rfl rfl rfl rfl rfl rfl rfl htop S.oex hx S.mro S.sup S.sub (pa_cons (pv 1) pa_nil) rfl rfl ⟨_, rfl, by show 1 ≤ 1000; decide, hx, rfl⟩
    · rintro _ rfl
      refine ⟨_, rfl, _, rfl, x, C, rfl, S.oex, hna "part" (by simp), .inl ⟨hx, fun dx hd hne => ?_⟩⟩
      exact k dx _ hd hne (fun b h1 h2 => by rw [upd_ne h1, upd_ne h2]) upd_same (by rw [upd_ne hne, upd_same]; rfl)
theorem sce3 : NScope ["self", "part", "__class__"] ["self", "part"] ["__class__"] (defScope sE3) := nscope_by (by decide +kernel)
theorem ok_e3 {f cc cda C : Addr} {fd : FuncData} (T : SupF P K f "__init__" "BadWorld.__init__" (defArgs sE3) (defBody sE3) (defScope sE3) cc cda C fd) (htop : (P.main.scope.names.lookup ("super" : Str)).isSome = false) (S : ErrC K C) (hna : ∀ y ∈ (["part"] : List Str), NoAttr K C y) :
    FnOk P w K mg base CX0 1 f fd ["self", "part"] (spErr C ["part"]) := by
  refine fn_sup (N := ["self", "part", "__class__"]) T sce3 (fun vs H Q E h => ?_) (fun A outer s H vs Q E hr h => ?_)
  · obtain ⟨x, ws, rfl, hl, _⟩ := h
    exact congrArg Nat.succ hl
  · obtain ⟨x, ws, rfl, hl, hx, k⟩ := h
    match ws, hl with
    | [v1], _ =>
    refine ⟨fun H2 => H2 = H, _, fun s1 I => ?_, PSs.nox (pss_one (ps_ost (pv 0) (pv 1))), ?_⟩
    · exact sup_exc T I rfl rfl rfl rfl rfl rfl rfl rfl htop S.oex hx S.mro S.sup S.sub (pa_cons (pv 1) pa_nil) rfl rfl ⟨_, rfl, by show 1 ≤ 1000; decide, hx, rfl⟩
    · rintro _ rfl
      refine ⟨_, rfl, _, rfl, x, C, rfl, S.oex, hna "part" (by simp), .inl ⟨hx, fun dx hd hne => ?_⟩⟩
      exact k dx _ hd hne (fun b h1 h2 => by rw [upd_ne h1, upd_ne h2]) upd_same (by rw [upd_ne hne, upd_same]; rfl)
theorem sce4 : NScope ["self", "part", "__class__"] ["self", "part"] ["__class__"] (defScope sE4) := nscope_by (by decide +kernel)
theorem ok_e4 {f cc cda C : Addr} {fd : FuncData} (T : SupF P K f "__init__" "BadAsk.__init__" (defArgs sE4) (defBody sE4) (defScope sE4) cc cda C fd) (htop : (P.main.scope.names.lookup ("super" : Str)).isSome = false) (S : ErrC K C) (hna : ∀ y ∈ (["part"] : List Str), NoAttr K C y) :
    FnOk P w K mg base CX0 1 f fd ["self", "part"] (spErr C ["part"]) := by
  refine fn_sup (N := ["self", "part", "__class__"]) T sce4 (fun vs H Q E h => ?_) (fun A outer s H vs Q E hr h => ?_)
  · obtain ⟨x, ws, rfl, hl, _⟩ := h
    exact congrArg Nat.succ hl
  · obtain ⟨x, ws, rfl, hl, hx, k⟩ := h
    match ws, hl with
    | [v1], _ =>
    refine ⟨fun H2 => H2 = H, _, fun s1 I => ?_, PSs.nox (pss_one (ps_ost (pv 0) (pv 1))), ?_⟩
    · exact sup_exc T I rfl rfl rfl rfl rfl rfl rfl rfl htop S.oex hx S.mro S.sup S.sub (pa_cons (pv 1) pa_nil) rfl rfl ⟨_, rfl, by show 1 ≤ 1000; decide, hx, rfl⟩
    · rintro _ rfl
      refine ⟨_, rfl, _, rfl, x, C, rfl, S.oex, hna "part" (by simp), .inl ⟨hx, fun dx hd hne => ?_⟩⟩
      exact k dx _ hd hne (fun b h1 h2 => by rw [upd_ne h1, upd_ne h2]) upd_same (by rw [upd_ne hne, upd_same]; rfl)
theorem sce5 : NScope ["self", "part", "__class__"] ["self", "part"] ["__class__"] (defScope sE5) := nscope_by (by decide +kernel)
theorem ok_e5 {f cc cda C : Addr} {fd : FuncData} (T : SupF P K f "__init__" "BadSheet.__init__" (defArgs sE5) (defBody sE5) (defScope sE5) cc cda C fd) (htop : (P.main.scope.names.lookup ("super" : Str)).isSome = false) (S : ErrC K C) (hna : ∀ y ∈ (["part"] : List Str), NoAttr K C y) :
    FnOk P w K mg base CX0 1 f fd ["self", "part"] (spErr C ["part"]) := by
  refine fn_sup (N := ["self", "part", "__class__"]) T sce5 (fun vs H Q E h => ?_) (fun A outer s H vs Q E hr h => ?_)
  · obtain ⟨x, ws, rfl, hl, _⟩ := h
    exact congrArg Nat.succ hl
  · obtain ⟨x, ws, rfl, hl, hx, k⟩ := h
    match ws, hl with
    | [v1], _ =>
    refine ⟨fun H2 => H2 = H, _, fun s1 I => ?_, PSs.nox (pss_one (ps_ost (pv 0) (pv 1))), ?_⟩
    · exact sup_exc T I rfl rfl rfl rfl rfl rfl rfl rfl htop S.oex hx S.mro S.sup S.sub (pa_cons (pv 1) pa_nil) rfl rfl ⟨_, rfl, by show 1 ≤ 1000; decide, hx, rfl⟩
    · rintro _ rfl
      refine ⟨_, rfl, _, rfl, x, C, rfl, S.oex, hna "part" (by simp), .inl ⟨hx, fun dx hd hne => ?_⟩⟩
      exact k dx _ hd hne (fun b h1 h2 => by rw [upd_ne h1, upd_ne h2]) upd_same (by rw [upd_ne hne, upd_same]; rfl)
theorem sce6 : NScope ["self", "part", "__class__"] ["self", "part"] ["__class__"] (defScope sE6) := nscope_by (by decide +kernel)
theorem ok_e6 {f cc cda C : Addr} {fd : FuncData} (T : SupF P K f "__init__" "BadSplit.__init__" (defArgs sE6) (defBody sE6) (defScope sE6) cc cda C fd) (htop : (P.main.scope.names.lookup ("super" : Str)).isSome = false) (S : ErrC K C) (hna : ∀ y ∈ (["part"] : List Str), NoAttr K C y) :
    FnOk P w K mg base CX0 1 f fd ["self", "part"] (spErr C ["part"]) := by
  refine fn_sup (N := ["self", "part", "__class__"]) T sce6 (fun vs H Q E h => ?_) (fun A outer s H vs Q E hr h => ?_)
  · obtain ⟨x, ws, rfl, hl, _⟩ := h
    exact congrArg Nat.succ hl
  · obtain ⟨x, ws, rfl, hl, hx, k⟩ := h
    match ws, hl with
    | [v1], _ =>
    refine ⟨fun H2 => H2 = H, _, fun s1 I => ?_, PSs.nox (pss_one (ps_ost (pv 0) (pv 1))), ?_⟩
    · exact sup_exc T I rfl rfl rfl rfl rfl rfl rfl rfl htop S.oex hx S.mro S.sup S.sub (pa_cons (pv 1) pa_nil) rfl rfl ⟨_, rfl, by show 1 ≤ 1000; decide, hx, rfl⟩
    · rintro _ rfl
      refine ⟨_, rfl, _, rfl, x, C, rfl, S.oex, hna "part" (by simp), .inl ⟨hx, fun dx hd hne => ?_⟩⟩
      exact k dx _ hd hne (fun b h1 h2 => by rw [upd_ne h1, upd_ne h2]) upd_same (by rw [upd_ne hne, upd_same]; rfl)
theorem sce7 : NScope ["self", "part", "__class__"] ["self", "part"] ["__class__"] (defScope sE7) := nscope_by (by decide +kernel)
theorem ok_e7 {f cc cda C : Addr} {fd : FuncData} (T : SupF P K f "__init__" "BadProgram.__init__" (defArgs sE7) (defBody sE7) (defScope sE7) cc cda C fd) (htop : (P.main.scope.names.lookup ("super" : Str)).isSome = false) (S : ErrC K C) (hna : ∀ y ∈ (["part"] : List Str), NoAttr K C y) :
    FnOk P w K mg base CX0 1 f fd ["self", "part"] (spErr C ["part"]) := by
  refine fn_sup (N := ["self", "part", "__class__"]) T sce7 (fun vs H Q E h => ?_) (fun A outer s H vs Q E hr h => ?_)
  · obtain ⟨x, ws, rfl, hl, _⟩ := h
    exact congrArg Nat.succ hl
  · obtain ⟨x, ws, rfl, hl, hx, k⟩ := h
    match ws, hl with
    | [v1], _ =>
    refine ⟨fun H2 => H2 = H, _, fun s1 I => ?_, PSs.nox (pss_one (ps_ost (pv 0) (pv 1))), ?_⟩
    · exact sup_exc T I rfl rfl rfl rfl rfl rfl rfl rfl htop S.oex hx S.mro S.sup S.sub (pa_cons (pv 1) pa_nil) rfl rfl ⟨_, rfl, by show 1 ≤ 1000; decide, hx, rfl⟩
    · rintro _ rfl
      refine ⟨_, rfl, _, rfl, x, C, rfl, S.oex, hna "part" (by simp), .inl ⟨hx, fun dx hd hne => ?_⟩⟩
      exact k dx _ hd hne (fun b h1 h2 => by rw [upd_ne h1, upd_ne h2]) upd_same (by rw [upd_ne hne, upd_same]; rfl)
theorem sce8 : NScope ["self", "part", "__class__"] ["self", "part"] ["__class__"] (defScope sE8) := nscope_by (by decide +kernel)
theorem ok_e8 {f cc cda C : Addr} {fd : FuncData} (T : SupF P K f "__init__" "BadBranch.__init__" (defArgs sE8) (defBody sE8) (defScope sE8) cc cda C fd) (htop : (P.main.scope.names.lookup ("super" : Str)).isSome = false) (S : ErrC K C) (hna : ∀ y ∈ (["part"] : List Str), NoAttr K C y) :
    FnOk P w K mg base CX0 1 f fd ["self", "part"] (spErr C ["part"]) := by
  refine fn_sup (N := ["self", "part", "__class__"]) T sce8 (fun vs H Q E h => ?_) (fun A outer s H vs Q E hr h => ?_)
  · obtain ⟨x, ws, rfl, hl, _⟩ := h
    exact congrArg Nat.succ hl
  · obtain ⟨x, ws, rfl, hl, hx, k⟩ := h
    match ws, hl with
    | [v1], _ =>
    refine ⟨fun H2 => H2 = H, _, fun s1 I => ?_, PSs.nox (pss_one (ps_ost (pv 0) (pv 1))), ?_⟩
    · exact sup_exc T I rfl rfl rfl rfl rfl rfl rfl rfl htop S.oex hx S.mro S.sup S.sub (pa_cons (pv 1) pa_nil) rfl rfl ⟨_, rfl, by show 1 ≤ 1000; decide, hx, rfl⟩
    · rintro _ rfl
      refine ⟨_, rfl, _, rfl, x, C, rfl, S.oex, hna "part" (by simp), .inl ⟨hx, fun dx hd hne => ?_⟩⟩
      exact k dx _ hd hne (fun b h1 h2 => by rw [upd_ne h1, upd_ne h2]) upd_same (by rw [upd_ne hne, upd_same]; rfl)
theorem sce9 : NScope ["self", "part", "__class__"] ["self", "part"] ["__class__"] (defScope sE9) := nscope_by (by decide +kernel)
theorem ok_e9 {f cc cda C : Addr} {fd : FuncData} (T : SupF P K f "__init__" "BadCode.__init__" (defArgs sE9) (defBody sE9) (defScope sE9) cc cda C fd) (htop : (P.main.scope.names.lookup ("super" : Str)).isSome = false) (S : ErrC K C) (hna : ∀ y ∈ (["part"] : List Str), NoAttr K C y) :
    FnOk P w K mg base CX0 1 f fd ["self", "part"] (spErr C ["part"]) := by
  refine fn_sup (N := ["self", "part", "__class__"]) T sce9 (fun vs H Q E h => ?_) (fun A outer s H vs Q E hr h => ?_)
  · obtain ⟨x, ws, rfl, hl, _⟩ := h
    exact congrArg Nat.succ hl
  · obtain ⟨x, ws, rfl, hl, hx, k⟩ := h
    match ws, hl with
    | [v1], _ =>
    refine ⟨fun H2 => H2 = H, _, fun s1 I => ?_, PSs.nox (pss_one (ps_ost (pv 0) (pv 1))), ?_⟩
    · exact sup_exc T I rfl rfl rfl rfl rfl rfl rfl rfl htop S.oex hx S.mro S.sup S.sub (pa_cons (pv 1) pa_nil) rfl rfl ⟨_, rfl, by show 1 ≤ 1000; decide, hx, rfl⟩
    · rintro _ rfl
      refine ⟨_, rfl, _, rfl, x, C, rfl, S.oex, hna "part" (by simp), .inl ⟨hx, fun dx hd hne => ?_⟩⟩
      exact k dx _ hd hne (fun b h1 h2 => by rw [upd_ne h1, upd_ne h2]) upd_same (by rw [upd_ne hne, upd_same]; rfl)
theorem sce10 : NScope ["self", "part", "__class__"] ["self", "part"] ["__class__"] (defScope sE10) := nscope_by (by decide +kernel)
theorem ok_e10 {f cc cda C : Addr} {fd : FuncData} (T : SupF P K f "__init__" "BadPaper.__init__" (defArgs sE10) (defBody sE10) (defScope sE10) cc cda C fd) (htop : (P.main.scope.names.lookup ("super" : Str)).isSome = false) (S : ErrC K C) (hna : ∀ y ∈ (["part"] : List Str), NoAttr K C y) :
    FnOk P w K mg base CX0 1 f fd ["self", "part"] (spErr C ["part"]) := by
  refine fn_sup (N := ["self", "part", "__class__"]) T sce10 (fun vs H Q E h => ?_) (fun A outer s H vs Q E hr h => ?_)
  · obtain ⟨x, ws, rfl, hl, _⟩ := h
    exact congrArg Nat.succ hl
  · obtain ⟨x, ws, rfl, hl, hx, k⟩ := h
    match ws, hl with
    | [v1], _ =>
    refine ⟨fun H2 => H2 = H, _, fun s1 I => ?_, PSs.nox (pss_one (ps_ost (pv 0) (pv 1))), ?_⟩
    · exact sup_exc T I rfl rfl rfl rfl rfl rfl rfl rfl htop S.oex hx S.mro S.sup S.sub (pa_cons (pv 1) pa_nil) rfl rfl ⟨_, rfl, by show 1 ≤ 1000; decide, hx, rfl⟩
    · rintro _ rfl
      refine ⟨_, rfl, _, rfl, x, C, rfl, S.oex, hna "part" (by simp), .inl ⟨hx, fun dx hd hne => ?_⟩⟩
      exact k dx _ hd hne (fun b h1 h2 => by rw [upd_ne h1, upd_ne h2]) upd_same (by rw [upd_ne hne, upd_same]; rfl)
theorem sce11 : NScope ["self", "part", "__class__"] ["self", "part"] ["__class__"] (defScope sE11) := nscope_by (by decide +kernel)
theorem ok_e11 {f cc cda C : Addr} {fd : FuncData} (T : SupF P K f "__init__" "BadOrder.__init__" (defArgs sE11) (defBody sE11) (defScope sE11) cc cda C fd) (htop : (P.main.scope.names.lookup ("super" : Str)).isSome = false) (S : ErrC K C) (hna : ∀ y ∈ (["part"] : List Str), NoAttr K C y) :
    FnOk P w K mg base CX0 1 f fd ["self", "part"] (spErr C ["part"]) := by
  refine fn_sup (N := ["self", "part", "__class__"]) T sce11 (fun vs H Q E h => ?_) (fun A outer s H vs Q E hr h => ?_)
  · obtain ⟨x, ws, rfl, hl, _⟩ := h
    exact congrArg Nat.succ hl
  · obtain ⟨x, ws, rfl, hl, hx, k⟩ := h
    match ws, hl with
    | [v1], _ =>
    refine ⟨fun H2 => H2 = H, _, fun s1 I => ?_, PSs.nox (pss_one (ps_ost (pv 0) (pv 1))), ?_⟩
    · exact sup_exc T I rfl rfl rfl rfl rfl rfl rfl rfl htop S.oex hx S.mro S.sup S.sub (pa_cons (pv 1) pa_nil) rfl rfl ⟨_, rfl, by show 1 ≤ 1000; decide, hx, rfl⟩
    · rintro _ rfl
      refine ⟨_, rfl, _, rfl, x, C, rfl, S.oex, hna "part" (by simp), .inl ⟨hx, fun dx hd hne => ?_⟩⟩
      exact k dx _ hd hne (fun b h1 h2 => by rw [upd_ne h1, upd_ne h2]) upd_same (by rw [upd_ne hne, upd_same]; rfl)
theorem sce12 : NScope ["self", "value", "__class__"] ["self", "value"] ["__class__"] (defScope sE12) := nscope_by (by decide +kernel)
theorem ok_e12 {f cc cda C : Addr} {fd : FuncData} (T : SupF P K f "__init__" "BadLot.__init__" (defArgs sE12) (defBody sE12) (defScope sE12) cc cda C fd) (htop : (P.main.scope.names.lookup ("super" : Str)).isSome = false) (S : ErrC K C) (hna : ∀ y ∈ (["value"] : List Str), NoAttr K C y) :
    FnOk P w K mg base CX0 1 f fd ["self", "value"] (spErr C ["value"]) := by
  refine fn_sup (N := ["self", "value", "__class__"]) T sce12 (fun vs H Q E h => ?_) (fun A outer s H vs Q E hr h => ?_)
  · obtain ⟨x, ws, rfl, hl, _⟩ := h
    exact congrArg Nat.succ hl
  · obtain ⟨x, ws, rfl, hl, hx, k⟩ := h
    match ws, hl with
    | [v1], _ =>
    refine ⟨fun H2 => H2 = H, _, fun s1 I => ?_, PSs.nox (pss_one (ps_ost (pv 0) (pv 1))), ?_⟩
    · exact sup_exc T I rfl rfl rfl rfl rfl rfl rfl rfl htop S.oex hx S.mro S.sup S.sub (pa_cons (pv 1) pa_nil) rfl rfl ⟨_, rfl, by show 1 ≤ 1000; decide, hx, rfl⟩
    · rintro _ rfl
      refine ⟨_, rfl, _, rfl, x, C, rfl, S.oex, hna "value" (by simp), .inl ⟨hx, fun dx hd hne => ?_⟩⟩
      exact k dx _ hd hne (fun b h1 h2 => by rw [upd_ne h1, upd_ne h2]) upd_same (by rw [upd_ne hne, upd_same]; rfl)
theorem sce13 : NScope ["self", "value", "__class__"] ["self", "value"] ["__class__"] (defScope sE13) := nscope_by (by decide +kernel)
theorem ok_e13 {f cc cda C : Addr} {fd : FuncData} (T : SupF P K f "__init__" "BadNumber.__init__" (defArgs sE13) (defBody sE13) (defScope sE13) cc cda C fd) (htop : (P.main.scope.names.lookup ("super" : Str)).isSome = false) (S : ErrC K C) (hna : ∀ y ∈ (["value"] : List Str), NoAttr K C y) :
    FnOk P w K mg base CX0 1 f fd ["self", "value"] (spErr C ["value"]) := by
  refine fn_sup (N := ["self", "value", "__class__"]) T sce13 (fun vs H Q E h => ?_) (fun A outer s H vs Q E hr h => ?_)
  · obtain ⟨x, ws, rfl, hl, _⟩ := h
    exact congrArg Nat.succ hl
  · obtain ⟨x, ws, rfl, hl, hx, k⟩ := h
    match ws, hl with
    | [v1], _ =>
    refine ⟨fun H2 => H2 = H, _, fun s1 I => ?_, PSs.nox (pss_one (ps_ost (pv 0) (pv 1))), ?_⟩
    · exact sup_exc T I rfl rfl rfl rfl rfl rfl rfl rfl htop S.oex hx S.mro S.sup S.sub (pa_cons (pv 1) pa_nil) rfl rfl ⟨_, rfl, by show 1 ≤ 1000; decide, hx, rfl⟩
    · rintro _ rfl
      refine ⟨_, rfl, _, rfl, x, C, rfl, S.oex, hna "value" (by simp), .inl ⟨hx, fun dx hd hne => ?_⟩⟩
      exact k dx _ hd hne (fun b h1 h2 => by rw [upd_ne h1, upd_ne h2]) upd_same (by rw [upd_ne hne, upd_same]; rfl)
theorem sce14 : NScope ["self", "part", "__class__"] ["self", "part"] ["__class__"] (defScope sE14) := nscope_by (by decide +kernel)
theorem ok_e14 {f cc cda C : Addr} {fd : FuncData} (T : SupF P K f "__init__" "BadQuestion.__init__" (defArgs sE14) (defBody sE14) (defScope sE14) cc cda C fd) (htop : (P.main.scope.names.lookup ("super" : Str)).isSome = false) (S : ErrC K C) (hna : ∀ y ∈ (["part"] : List Str), NoAttr K C y) :
    FnOk P w K mg base CX0 1 f fd ["self", "part"] (spErr C ["part"]) := by
  refine fn_sup (N := ["self", "part", "__class__"]) T sce14 (fun vs H Q E h => ?_) (fun A outer s H vs Q E hr h => ?_)
  · obtain ⟨x, ws, rfl, hl, _⟩ := h
    exact congrArg Nat.succ hl
  · obtain ⟨x, ws, rfl, hl, hx, k⟩ := h
    match ws, hl with
    | [v1], _ =>
    refine ⟨fun H2 => H2 = H, _, fun s1 I => ?_, PSs.nox (pss_one (ps_ost (pv 0) (pv 1))), ?_⟩
    · exact sup_exc T I rfl rfl rfl rfl rfl rfl rfl rfl htop S.oex hx S.mro S.sup S.sub (pa_cons (pv 1) pa_nil) rfl rfl ⟨_, rfl, by show 1 ≤ 1000; decide, hx, rfl⟩
    · rintro _ rfl
      refine ⟨_, rfl, _, rfl, x, C, rfl, S.oex, hna "part" (by simp), .inl ⟨hx, fun dx hd hne => ?_⟩⟩
      exact k dx _ hd hne (fun b h1 h2 => by rw [upd_ne h1, upd_ne h2]) upd_same (by rw [upd_ne hne, upd_same]; rfl)
theorem sce15 : NScope ["self", "part", "__class__"] ["self", "part"] ["__class__"] (defScope sE15) := nscope_by (by decide +kernel)
theorem ok_e15 {f cc cda C : Addr} {fd : FuncData} (T : SupF P K f "__init__" "Misfit.__init__" (defArgs sE15) (defBody sE15) (defScope sE15) cc cda C fd) (htop : (P.main.scope.names.lookup ("super" : Str)).isSome = false) (S : ErrC K C) (hna : ∀ y ∈ (["part"] : List Str), NoAttr K C y) :
    FnOk P w K mg base CX0 1 f fd ["self", "part"] (spErr C ["part"]) := by
  refine fn_sup (N := ["self", "part", "__class__"]) T sce15 (fun vs H Q E h => ?_) (fun A outer s H vs Q E hr h => ?_)
  · obtain ⟨x, ws, rfl, hl, _⟩ := h
    exact congrArg Nat.succ hl
  · obtain ⟨x, ws, rfl, hl, hx, k⟩ := h
    match ws, hl with
    | [v1], _ =>
    refine ⟨fun H2 => H2 = H, _, fun s1 I => ?_, PSs.nox (pss_one (ps_ost (pv 0) (pv 1))), ?_⟩
    · exact sup_exc T I rfl rfl rfl rfl rfl rfl rfl rfl htop S.oex hx S.mro S.sup S.sub (pa_cons (pv 1) pa_nil) rfl rfl ⟨_, rfl, by show 1 ≤ 1000; decide, hx, rfl⟩
    · rintro _ rfl
      refine ⟨_, rfl, _, rfl, x, C, rfl, S.oex, hna "part" (by simp), .inl ⟨hx, fun dx hd hne => ?_⟩⟩
      exact k dx _ hd hne (fun b h1 h2 => by rw [upd_ne h1, upd_ne h2]) upd_same (by rw [upd_ne hne, upd_same]; rfl)
theorem sce16 : NScope ["self", "what", "__class__"] ["self", "what"] ["__class__"] (defScope sE16) := nscope_by (by decide +kernel)
theorem ok_e16 {f cc cda C : Addr} {fd : FuncData} (T : SupF P K f "__init__" "Nothing.__init__" (defArgs sE16) (defBody sE16) (defScope sE16) cc cda C fd) (htop : (P.main.scope.names.lookup ("super" : Str)).isSome = false) (S : ErrC K C) (hna : ∀ y ∈ (["what"] : List Str), NoAttr K C y) :
    FnOk P w K mg base CX0 1 f fd ["self", "what"] (spErr C ["what"]) := by
  refine fn_sup (N := ["self", "what", "__class__"]) T sce16 (fun vs H Q E h => ?_) (fun A outer s H vs Q E hr h => ?_)
  · obtain ⟨x, ws, rfl, hl, _⟩ := h
    exact congrArg Nat.succ hl
  · obtain ⟨x, ws, rfl, hl, hx, k⟩ := h
    match ws, hl with
    | [v1], _ =>
    refine ⟨fun H2 => H2 = H, _, fun s1 I => ?_, PSs.nox (pss_one (ps_ost (pv 0) (pv 1))), ?_⟩
    · exact sup_exc T I rfl rfl rfl rfl rfl rfl rfl rfl htop S.oex hx S.mro S.sup S.sub (pa_cons (pv 1) pa_nil) rfl rfl ⟨_, rfl, by show 1 ≤ 1000; decide, hx, rfl⟩
    · rintro _ rfl
      refine ⟨_, rfl, _, rfl, x, C, rfl, S.oex, hna "what" (by simp), .inl ⟨hx, fun dx hd hne => ?_⟩⟩
      exact k dx _ hd hne (fun b h1 h2 => by rw [upd_ne h1, upd_ne h2]) upd_same (by rw [upd_ne hne, upd_same]; rfl)
theorem sce17 : NScope ["self", "line", "word", "__class__"] ["self", "line", "word"] ["__class__"] (defScope sE17) := nscope_by (by decide +kernel)
theorem ok_e17 {f cc cda C : Addr} {fd : FuncData} (T : SupF P K f "__init__" "BadText.__init__" (defArgs sE17) (defBody sE17) (defScope sE17) cc cda C fd) (htop : (P.main.scope.names.lookup ("super" : Str)).isSome = false) (S : ErrC K C) (hna : ∀ y ∈ (["line", "word"] : List Str), NoAttr K C y) :
    FnOk P w K mg base CX0 1 f fd ["self", "line", "word"] (spErr C ["line", "word"]) := by
  refine fn_sup (N := ["self", "line", "word", "__class__"]) T sce17 (fun vs H Q E h => ?_) (fun A outer s H vs Q E hr h => ?_)
  · obtain ⟨x, ws, rfl, hl, _⟩ := h
    exact congrArg Nat.succ hl
  · obtain ⟨x, ws, rfl, hl, hx, k⟩ := h
    match ws, hl with
    | [v1, v2], _ =>
    refine ⟨fun H2 => H2 = H, _, fun s1 I => ?_, PSs.nox (pss_cons (ps_ost (pv 0) (pv 1)) (pss_one (ps_ost (pv 0) (pv 2)))), ?_⟩
    · exact sup_exc T I rfl rfl rfl rfl rfl rfl rfl rfl htop S.oex hx S.mro S.sup S.sub (pa_cons (pv 1) (pa_cons (pv 2) pa_nil)) rfl rfl ⟨_, rfl, _, rfl, by show 2 ≤ 1000; decide, hx, rfl⟩
    · rintro _ rfl
      refine ⟨_, rfl, _, rfl, x, C, rfl, S.oex, hna "line" (by simp), .inl ⟨hx, fun dx hd hne => ?_⟩⟩
      refine ⟨_, rfl, _, rfl, x, C, rfl, S.oex, hna "word" (by simp), .inr ⟨dx, [("line", v1)], upd_same, (by rw [upd_ne hne, upd_same]), (by show 1 ≤ 900; decide), ?_⟩⟩
      exact k dx _ hd hne (fun b h1 h2 => by rw [upd_ne h2, upd_ne h1, upd_ne h2]) (by rw [upd_ne (fun z => hne z.symm), upd_same]) (by rw [upd_same]; rfl)
theorem sce18 : NScope ["self", "word", "__class__"] ["self", "word"] ["__class__"] (defScope sE18) := nscope_by (by decide +kernel)
theorem ok_e18 {f cc cda C : Addr} {fd : FuncData} (T : SupF P K f "__init__" "BadLine.__init__" (defArgs sE18) (defBody sE18) (defScope sE18) cc cda C fd) (htop : (P.main.scope.names.lookup ("super" : Str)).isSome = false) (S : ErrC K C) (hna : ∀ y ∈ (["word"] : List Str), NoAttr K C y) :
    FnOk P w K mg base CX0 1 f fd ["self", "word"] (spErr C ["word"]) := by
  refine fn_sup (N := ["self", "word", "__class__"]) T sce18 (fun vs H Q E h => ?_) (fun A outer s H vs Q E hr h => ?_)
  · obtain ⟨x, ws, rfl, hl, _⟩ := h
    exact congrArg Nat.succ hl
  · obtain ⟨x, ws, rfl, hl, hx, k⟩ := h
    match ws, hl with
    | [v1], _ =>
    refine ⟨fun H2 => H2 = H, _, fun s1 I => ?_, PSs.nox (pss_one (ps_ost (pv 0) (pv 1))), ?_⟩
    · exact sup_exc T I rfl rfl rfl rfl rfl rfl rfl rfl htop S.oex hx S.mro S.sup S.sub (pa_cons (pv 1) pa_nil) rfl rfl ⟨_, rfl, by show 1 ≤ 1000; decide, hx, rfl⟩
    · rintro _ rfl
      refine ⟨_, rfl, _, rfl, x, C, rfl, S.oex, hna "word" (by simp), .inl ⟨hx, fun dx hd hne => ?_⟩⟩
      exact k dx _ hd hne (fun b h1 h2 => by rw [upd_ne h1, upd_ne h2]) upd_same (by rw [upd_ne hne, upd_same]; rfl)
theorem sce19 : NScope ["self", "what", "most", "__class__"] ["self", "what", "most"] ["__class__"] (defScope sE19) := nscope_by (by decide +kernel)
theorem ok_e19 {f cc cda C : Addr} {fd : FuncData} (T : SupF P K f "__init__" "TooMany.__init__" (defArgs sE19) (defBody sE19) (defScope sE19) cc cda C fd) (htop : (P.main.scope.names.lookup ("super" : Str)).isSome = false) (S : ErrC K C) (hna : ∀ y ∈ (["what", "most"] : List Str), NoAttr K C y) :
    FnOk P w K mg base CX0 1 f fd ["self", "what", "most"] (spErr C ["what", "most"]) := by
  refine fn_sup (N := ["self", "what", "most", "__class__"]) T sce19 (fun vs H Q E h => ?_) (fun A outer s H vs Q E hr h => ?_)
  · obtain ⟨x, ws, rfl, hl, _⟩ := h
    exact congrArg Nat.succ hl
  · obtain ⟨x, ws, rfl, hl, hx, k⟩ := h
    match ws, hl with
    | [v1, v2], _ =>
    refine ⟨fun H2 => H2 = H, _, fun s1 I => ?_, PSs.nox (pss_cons (ps_ost (pv 0) (pv 1)) (pss_one (ps_ost (pv 0) (pv 2)))), ?_⟩
    · exact sup_exc T I rfl rfl rfl rfl rfl rfl rfl rfl htop S.oex hx S.mro S.sup S.sub (pa_cons (pv 1) (pa_cons (pv 2) pa_nil)) rfl rfl ⟨_, rfl, _, rfl, by show 2 ≤ 1000; decide, hx, rfl⟩
    · rintro _ rfl
      refine ⟨_, rfl, _, rfl, x, C, rfl, S.oex, hna "what" (by simp), .inl ⟨hx, fun dx hd hne => ?_⟩⟩
      refine ⟨_, rfl, _, rfl, x, C, rfl, S.oex, hna "most" (by simp), .inr ⟨dx, [("what", v1)], upd_same, (by rw [upd_ne hne, upd_same]), (by show 1 ≤ 900; decide), ?_⟩⟩
      exact k dx _ hd hne (fun b h1 h2 => by rw [upd_ne h2, upd_ne h1, upd_ne h2]) (by rw [upd_ne (fun z => hne z.symm), upd_same]) (by rw [upd_same]; rfl)
end
end K8
set_option Elab.async false
set_option linter.all false
set_option maxRecDepth 100000
set_option maxHeartbeats 4000000
namespace K8
open PySem PySem.Spec PyProof.Rows L2 NdefX
/-- the words of the eleven papers -/
def nmOf : Nat → Str
  | 0 => "exactly" | 1 => "slow" | 2 => "loose" | 3 => "best" | 4 => "wall" | 5 => "plan" | 6 => "bare" | 7 => "keeps" | 8 => "right" | 9 => "barred" | _ => "unbounded"
/-- their classes' names -/
def clOf : Nat → Str
  | 0 => "Exactly" | 1 => "Slow" | 2 => "Loose" | 3 => "Best" | 4 => "Wall" | 5 => "Plan" | 6 => "Bare" | 7 => "Keeps" | 8 => "Right" | 9 => "Barred" | _ => "Unbounded"
/-- their attributes -/
def flOf : Nat → List Str
  | 0 => ["value", "bottom", "shares", "scale", "numbers"] | 1 => ["statement", "branch", "scale", "numbers"] | 2 => ["statement", "branch", "lot"] | 3 => ["value", "plan", "wall"] | 4 => ["value", "fence", "stretches"]
  | 5 => ["threshold", "rows"] | 6 => ["lots", "bars"] | 7 => ["rows"] | 8 => ["fits"] | 9 => ["name"] | _ => ["lot"]
/-- not a denial -/
def trOf : Nat → Bool
  | 0 => true | 3 => true | 5 => true | 7 => true | 8 => true | 9 => true | _ => false
/-- a new paper, as it stands behind its making at H -/
structure MadeP (K : PySem.W.Frag) (H H' : Hp) (x C : Addr) (names : List Str) (es : List PyData) : Prop where
  same : Same H H'
  new : H x = none
  at_ : ∃ (dx pv : Addr) (xs : List V), H' x = some (.ins C dx (fldsOf names xs [("own_parts", .ref pv)])) ∧ SqT K (nw H H') pv xs ∧ DpAll K (nw H H') xs es
theorem MadeP.grow {K : PySem.W.Frag} {H H' H'' : Hp} {x C : Addr} {names : List Str} {es : List PyData} (m : MadeP K H H' x C names es) (s : Same H' H'') : MadeP K H H'' x C names es := by
  obtain ⟨dx, pv, xs, e, q, d⟩ := m.at_
  exact ⟨m.same.trans s, m.new, dx, pv, xs, s _ _ e, sqt_same (nw_grow s) q, dpa_same (nw_grow s) d⟩
theorem MadeP.back {K : PySem.W.Frag} {H0 H H' : Hp} {x C : Addr} {names : List Str} {es : List PyData} (m : MadeP K H H' x C names es) (s : Same H0 H) : MadeP K H0 H' x C names es := by
  obtain ⟨dx, pv, xs, e, q, d⟩ := m.at_
  exact ⟨s.trans m.same, s.free m.new, dx, pv, xs, e, sqt_same (nw_sub s) q, dpa_same (nw_sub s) d⟩
/-- C(e, ..), C a class under Paper -/
def tNewP (K : PySem.W.Frag) (C : Addr) (names : List Str) (n : Nat) (ta : TA) : TE := fun σ H Q => ta σ H fun vs H1 => ∃ ds, DpAll K H1 vs ds ∧ vs.length = names.length ∧ SD n (.tuple ds) ∧ ∀ x H2, MadeP K H1 H2 x C names (ds.map fx) → Q (.ref x) H2
section
variable {X : Cx}
theorem PE.imp {e : Expr} {t u : TE} (h : PE X e t) (k : ∀ σ H Q, u σ H Q → t σ H Q) : PE X e u := ⟨fun pins s σ H Q I q => h.run pins s σ H Q I (k σ H Q q)⟩
theorem pe_newP {C fI : Addr} {k n : Nat} {x : Str} {names : List Str} {e : Expr} {es : List Expr} {ta : TA} {p pos : Pos} (hm : X.mg x = some (.ref C)) (M : Mk X.K C fI) (F : FnR X.prog X.w X.K X.mg X.base CX0 k fI (spSub X.K C names n)) (hr : Room (k + 1) X.A) (hg : Gl X x) (ha : PA X (e :: es) ta)
    (hdb : (x == ("__debug__" : Str)) = false := by decide) (he : starEach (e :: es) X.env = (false, eval e X.env) :: starEach es X.env := by rfl) (hpl : (backTo pos (starEach es X.env)).any (·.1) = false := by rfl) :
    PE X (.Call (.Name x p) (e :: es) [] pos) (tNewP X.K C names n ta) := by
  refine ⟨fun pins s σ H Q I h => ?_⟩
  refine wpAny_Call_Name_kw (ld_glob I hg hm ?_ hdb)
  refine PySem.W.callWith_K (h₀ := X.base) I.ok.mod.kin M.kp (thn (ha.run pos pins s σ H _ I h) fun us s1 ⟨vs, H1, I1, r, ds, hd, hl, sd, q⟩ => ⟨I1.kIn, ?_⟩) he hpl
  refine StX.run_makeR M F hr pass0 I1 r fun a dx ha hdx hne => ?_
  have s1' : Same H1 (upd (upd H1 dx (.own a)) a (.ins C dx [])) := same_upd' (same_upd hdx) (by rw [upd_ne (fun z => hne z.symm)]; exact ha)
  refine ⟨a, dx, vs, ds, rfl, hl, upd_same, dpa_same s1' hd, sd, fun H2 H3 pv xs s2 off hx q2 d2 => ⟨rfl, q a H3 ⟨?_, ha, dx, pv, xs, hx, ?_, ?_⟩⟩⟩
  · intro b o hb
    rw [off b (ne_of_none hb ha)]
    exact s2 _ _ (s1' _ _ hb)
  · exact sqt_same (fun b o hb => by
      obtain ⟨h1, h2⟩ := nw_get hb
      rw [nw_at (s1'.free h1), off b (fun z => by subst z; rw [upd_same] at h1; cases h1)]
      exact h2) q2
  · exact dpa_same (fun b o hb => by
      obtain ⟨h1, h2⟩ := nw_get hb
      rw [nw_at (s1'.free h1), off b (fun z => by subst z; rw [upd_same] at h1; cases h1)]
      exact h2) d2
end
theorem hu1 {k : Nat} {A : Around} (r : Room k A) : A.units + 1 < cLine := by
  have := r.un
  omega
theorem ne_kinds {H : Hp} {a b : Addr} {xs : List V} {ks : List (Key × V)} (h1 : H a = some (.lst xs)) (h2 : H b = some (.dK ks)) : a ≠ b := fun z => by
  subst z
  rw [h1] at h2
  cases h2
theorem ifT {c : Bool} {A B : Prop} (h : c = true) (a : A) : if c = true then A else B := by rw [if_pos h]; exact a
theorem ifF {c : Bool} {A B : Prop} (h : c = false) (b : B) : if c = true then A else B := by rw [h]; exact iteF b
/-- a list or a tuple -/
def SqE (K : PySem.W.Frag) (H : Hp) (a : Addr) (xs : List V) : Prop := SqL K H a xs ∨ SqT K H a xs
theorem SqE.same {K : PySem.W.Frag} {H H' : Hp} {a : Addr} {xs : List V} (s : Same H H') (h : SqE K H a xs) : SqE K H' a xs := h.elim (fun z => .inl (Same.seq s z)) (fun z => .inr (sqt_same s z))
theorem rIx_seq {K : PySem.W.Frag} {H : Hp} {a : Addr} {xs : List V} {i : Int} {v : V} {Q : VK} (h : SqE K H a xs) (hv : atI xs i = some v) (q : Q v H) : rIx K (.ref a) (.int i) H Q :=
  h.elim (fun z => .inl ⟨a, xs, i, v, rfl, rfl, z, hv, q⟩) (fun z => .inr (.inl ⟨a, xs, i, v, rfl, rfl, z, hv, q⟩))
theorem sd_some {ds es : List PyData} {n : Nat} (h : ∀ d ∈ ds, SD n d) (hl : es.length ≤ 20) (hs : ∀ e ∈ es, e ∈ ds) : SD (n + 1) (.tuple es) := .tuple hl fun x hx => h x (hs x hx)
theorem same_free {H H' : Hp} {p : Addr} {o : HO} (s : Same H H') (h : H p = none) : Same H (upd H' p o) := fun b u e => by
  rw [upd_ne (ne_of_none e h)]
  exact s _ _ e
/-- what is known of a class under Paper -/
structure Pap (P : Program) (w : World) (K : PySem.W.Frag) (mg : Str → Option Value) (base : Heap) (Pa : Addr) (i : Nat) (C : Addr) : Prop where
  pc : PC K Pa C (nmOf i) (trOf i)
  na : ∀ y ∈ flOf i, NoAttr K C y
  glob : mg (clOf i) = some (.ref C)
  making : ∃ fI, Mk K C fI ∧ FnR P w K mg base CX0 7 fI (spSub K C (flOf i) 4)
theorem one_more {K : PySem.W.Frag} {H : Hp} {xs : List V} {ds : List PyData} {n : Nat} (hl : xs.length = n + 1) (h : DpAll K H xs ds) : ∃ v d ys es, xs = v :: ys ∧ ds = d :: es ∧ ys.length = n ∧ Dp K H v d ∧ DpAll K H ys es := by
  cases h with
  | nil => cases hl
  | cons a b => exact ⟨_, _, _, _, rfl, rfl, Nat.succ.inj hl, a, b⟩
theorem five {K : PySem.W.Frag} {H : Hp} {xs : List V} {ds : List PyData} (hl : xs.length = 5) (h : DpAll K H xs ds) :
    ∃ v0 v1 v2 v3 v4 d0 d1 d2 d3 d4, xs = [v0, v1, v2, v3, v4] ∧ ds = [d0, d1, d2, d3, d4] ∧ Dp K H v0 d0 ∧ Dp K H v1 d1 ∧ Dp K H v2 d2 ∧ Dp K H v3 d3 ∧ Dp K H v4 d4 := by
  obtain ⟨v0, d0, y0, e0, rfl, rfl, l0, h0, r0⟩ := one_more hl h
  obtain ⟨v1, d1, y1, e1, rfl, rfl, l1, h1, r1⟩ := one_more l0 r0
  obtain ⟨v2, d2, y2, e2, rfl, rfl, l2, h2, r2⟩ := one_more l1 r1
  obtain ⟨v3, d3, y3, e3, rfl, rfl, l3, h3, r3⟩ := one_more l2 r2
  obtain ⟨v4, d4, y4, e4, rfl, rfl, l4, h4, r4⟩ := one_more l3 r3
  cases r4 with
  | nil => exact ⟨v0, v1, v2, v3, v4, d0, d1, d2, d3, d4, rfl, rfl, h0, h1, h2, h3, h4⟩
  | cons a b => cases l4
abbrev sMade : Stmt := top 46
def spMade (K : PySem.W.Frag) (CC : Nat → Addr) : Sp := fun vs H Q _ => ∃ (i : Nat) (a : Addr) (xs : List V) (ds : List PyData), i < 11 ∧ vs = [.str (nmOf i), .ref a] ∧ SqE K H a xs ∧ xs.length = 5 ∧ DpAll K H xs ds ∧ (∀ d ∈ ds, SD 3 d) ∧
  ∀ (x T A : Addr) (H' : Hp), MadeP K H H' x (CC i) (flOf i) ((ds.take (flOf i).length).map fx) → H' T = some (.tup [.ref x, .ref A]) → H' A = some (.lst ((flOf i).map V.str)) → Q (.ref T) H'
section
variable {P : Program} {w : World} {K : PySem.W.Frag} {mg : Str → Option Value} {base : Heap} {Pa : Addr}
theorem scMade : FnScope ["name", "parts", "made"] ["name", "parts"] (defScope sMade) := ⟨rfl, rfl, rfl, by decide +kernel, rfl, by decide +kernel, by decide +kernel⟩
theorem ok_made {CC : Nat → Addr} (PP : ∀ i, i < 11 → Pap P w K mg base Pa i (CC i)) {f : Addr} {fd : FuncData} (F : FnP K "_law_made" "_law_made" sMade f fd) (T : Blt mg) : FnOk P w K mg base CX0 9 f fd ["name", "parts"] (spMade K CC) := by
  refine F.ok scMade (fun vs H Q E h => ?_) (fun cdv A outer s H vs Q E hr h => ?_)
  · obtain ⟨i, a, xs, ds, _, rfl, _⟩ := h
    rfl
  · obtain ⟨i, a, xs, ds, hi, rfl, hs, hl, hd, sd, k⟩ := h
    obtain ⟨v0, v1, v2, v3, v4, d0, d1, d2, d3, d4, rfl, rfl, h0, h1, h2, h3, h4⟩ := five hl hd
    obtain ⟨f0, M0, F0⟩ := (PP 0 (by decide)).making
    obtain ⟨f1, M1, F1⟩ := (PP 1 (by decide)).making
    obtain ⟨f2, M2, F2⟩ := (PP 2 (by decide)).making
    obtain ⟨f3, M3, F3⟩ := (PP 3 (by decide)).making
    obtain ⟨f4, M4, F4⟩ := (PP 4 (by decide)).making
    obtain ⟨f5, M5, F5⟩ := (PP 5 (by decide)).making
    obtain ⟨f6, M6, F6⟩ := (PP 6 (by decide)).making
    obtain ⟨f7, M7, F7⟩ := (PP 7 (by decide)).making
    obtain ⟨f8, M8, F8⟩ := (PP 8 (by decide)).making
    obtain ⟨f9, M9, F9⟩ := (PP 9 (by decide)).making
    obtain ⟨f10, M10, F10⟩ := (PP 10 (by decide)).making
    refine ⟨_, PSs.nox (pss_cons (ps_if (pt_cmpR op_eq (pv 0) pe_str (nomark _)) (pss_one (ps_ret (pe_tup (pa_cons (pe_newP (PP 0 (by decide)).glob M0 F0 hr (by rfl) (pa_cons (pe_ix ix_seq (pv 1) pe_int (fun _ _ => rfl)) (pa_cons (pe_ix ix_seq (pv 1) pe_int (fun _ _ => rfl)) (pa_cons (pe_ix ix_seq (pv 1) pe_int (fun _ _ => rfl)) (pa_cons (pe_ix ix_seq (pv 1) pe_int (fun _ _ => rfl)) (pa_cons (pe_ix ix_seq (pv 1) pe_int (fun _ _ => rfl)) pa_nil)))))) (pa_cons (pe_lst (pa_cons pe_str (pa_cons pe_str (pa_cons pe_str (pa_cons pe_str (pa_cons pe_str pa_nil)))))) pa_nil))))) pss_nil)
        (pss_cons (ps_if (pt_cmpR op_eq (pv 0) pe_str (nomark _)) (pss_one (ps_ret (pe_tup (pa_cons (pe_newP (PP 1 (by decide)).glob M1 F1 hr (by rfl) (pa_cons (pe_ix ix_seq (pv 1) pe_int (fun _ _ => rfl)) (pa_cons (pe_ix ix_seq (pv 1) pe_int (fun _ _ => rfl)) (pa_cons (pe_ix ix_seq (pv 1) pe_int (fun _ _ => rfl)) (pa_cons (pe_ix ix_seq (pv 1) pe_int (fun _ _ => rfl)) pa_nil))))) (pa_cons (pe_lst (pa_cons pe_str (pa_cons pe_str (pa_cons pe_str (pa_cons pe_str pa_nil))))) pa_nil))))) pss_nil)
        (pss_cons (ps_if (pt_cmpR op_in_seq (pv 0) (pe_tup (pa_cons pe_str (pa_cons pe_str (pa_cons pe_str pa_nil)))) (by rfl)) (pss_cons (ps_set (i := 2) scMade.nd rfl (Or.inl rfl) (pe_ifExp (pt_cmpR op_eq (pv 0) pe_str (nomark _)) (pe_newP (PP 2 (by decide)).glob M2 F2 hr (by rfl) (pa_cons (pe_ix ix_seq (pv 1) pe_int (fun _ _ => rfl)) (pa_cons (pe_ix ix_seq (pv 1) pe_int (fun _ _ => rfl)) (pa_cons (pe_ix ix_seq (pv 1) pe_int (fun _ _ => rfl)) pa_nil)))) (pe_ifExp (pt_cmpR op_eq (pv 0) pe_str (nomark _)) (pe_newP (PP 3 (by decide)).glob M3 F3 hr (by rfl) (pa_cons (pe_ix ix_seq (pv 1) pe_int (fun _ _ => rfl)) (pa_cons (pe_ix ix_seq (pv 1) pe_int (fun _ _ => rfl)) (pa_cons (pe_ix ix_seq (pv 1) pe_int (fun _ _ => rfl)) pa_nil)))) (pe_newP (PP 4 (by decide)).glob M4 F4 hr (by rfl) (pa_cons (pe_ix ix_seq (pv 1) pe_int (fun _ _ => rfl)) (pa_cons (pe_ix ix_seq (pv 1) pe_int (fun _ _ => rfl)) (pa_cons (pe_ix ix_seq (pv 1) pe_int (fun _ _ => rfl)) pa_nil)))))))
        (pss_one (ps_ret (pe_tup (pa_cons (pv 2) (pa_cons (pe_dget (hu1 hr) (pe_disp (pps_cons pe_str (pe_lst (pa_cons pe_str (pa_cons pe_str (pa_cons pe_str pa_nil)))) (pps_cons pe_str (pe_lst (pa_cons pe_str (pa_cons pe_str (pa_cons pe_str pa_nil)))) (pps_cons pe_str (pe_lst (pa_cons pe_str (pa_cons pe_str (pa_cons pe_str pa_nil)))) pps_nil))) (by rfl) (by rfl) (by decide) (by decide)) (pv 0) (fun _ _ => rfl)) pa_nil)))))) pss_nil)
        (pss_cons (ps_if (pt_cmpR op_in_seq (pv 0) (pe_tup (pa_cons pe_str (pa_cons pe_str pa_nil))) (by rfl)) (pss_one (ps_ret (pe_tup (pa_cons (pe_ifExp (pt_cmpR op_eq (pv 0) pe_str (nomark _)) (pe_newP (PP 5 (by decide)).glob M5 F5 hr (by rfl) (pa_cons (pe_ix ix_seq (pv 1) pe_int (fun _ _ => rfl)) (pa_cons (pe_ix ix_seq (pv 1) pe_int (fun _ _ => rfl)) pa_nil))) (pe_newP (PP 6 (by decide)).glob M6 F6 hr (by rfl) (pa_cons (pe_ix ix_seq (pv 1) pe_int (fun _ _ => rfl)) (pa_cons (pe_ix ix_seq (pv 1) pe_int (fun _ _ => rfl)) pa_nil)))) (pa_cons (pe_ifExp (pt_cmpR op_eq (pv 0) pe_str (nomark _)) (pe_lst (pa_cons pe_str (pa_cons pe_str pa_nil))) (pe_lst (pa_cons pe_str (pa_cons pe_str pa_nil)))) pa_nil))))) pss_nil)
        (pss_cons (ps_set (i := 2) scMade.nd rfl (Or.inl rfl) (pe_ifExp (pt_cmpR op_eq (pv 0) pe_str (nomark _)) (pe_newP (PP 7 (by decide)).glob M7 F7 hr (by rfl) (pa_cons (pe_ix ix_seq (pv 1) pe_int (fun _ _ => rfl)) pa_nil)) (pe_ifExp (pt_cmpR op_eq (pv 0) pe_str (nomark _)) (pe_newP (PP 8 (by decide)).glob M8 F8 hr (by rfl) (pa_cons (pe_ix ix_seq (pv 1) pe_int (fun _ _ => rfl)) pa_nil)) (pe_ifExp (pt_cmpR op_eq (pv 0) pe_str (nomark _)) (pe_newP (PP 9 (by decide)).glob M9 F9 hr (by rfl) (pa_cons (pe_ix ix_seq (pv 1) pe_int (fun _ _ => rfl)) pa_nil)) (pe_newP (PP 10 (by decide)).glob M10 F10 hr (by rfl) (pa_cons (pe_ix ix_seq (pv 1) pe_int (fun _ _ => rfl)) pa_nil))))))
        (pss_one (ps_ret (pe_tup (pa_cons (pv 2) (pa_cons (pe_lst (pa_cons (pe_dget (hu1 hr) (pe_disp (pps_cons pe_str pe_str (pps_cons pe_str pe_str (pps_cons pe_str pe_str (pps_cons pe_str pe_str pps_nil)))) (by rfl) (by rfl) (by decide) (by decide)) (pv 0) (fun _ _ => rfl)) pa_nil)) pa_nil)))))))))), ?_⟩
    have g : Same H H := fun _ _ z => z
    match i, hi, k with
    | 0, _, k =>
      refine ⟨_, rfl, rfl, _, rfl, ?_⟩
      refine ifT (by decide +kernel) ?_
      refine ⟨_, rfl, ?_⟩
      refine rIx_seq (hs.same g) rfl ?_
      refine ⟨_, rfl, ?_⟩
      refine rIx_seq (hs.same g) rfl ?_
      refine ⟨_, rfl, ?_⟩
      refine rIx_seq (hs.same g) rfl ?_
      refine ⟨_, rfl, ?_⟩
      refine rIx_seq (hs.same g) rfl ?_
      refine ⟨_, rfl, ?_⟩
      refine rIx_seq (hs.same g) rfl ?_
      refine ⟨[d0, d1, d2, d3, d4], (.cons (dp_same g h0) (.cons (dp_same g h1) (.cons (dp_same g h2) (.cons (dp_same g h3) (.cons (dp_same g h4) .nil))))), rfl, sd_some sd (by show 5 ≤ 20; decide) (by intro e he; simp only [List.mem_cons, List.not_mem_nil, or_false] at he ⊢; rcases he with rfl | rfl | rfl | rfl | rfl <;> simp), fun x Hm M => ?_⟩
      have M := M.back g
      have g := M.same
      have mS : Same Hm Hm := fun _ _ z => z
      refine ⟨by show 5 ≤ sizeLine; decide, fun p1 hp1 => ?_⟩
      have g := g.trans (same_upd (H := Hm) (p := p1) (o := .lst [.str "value", .str "bottom", .str "shares", .str "scale", .str "numbers"]) hp1)
      have mS := mS.trans (same_upd (H := Hm) (p := p1) (o := .lst [.str "value", .str "bottom", .str "shares", .str "scale", .str "numbers"]) hp1)
      have ep1 : upd Hm p1 (.lst [.str "value", .str "bottom", .str "shares", .str "scale", .str "numbers"]) p1 = some (.lst [.str "value", .str "bottom", .str "shares", .str "scale", .str "numbers"]) := upd_same
      refine ⟨by show 2 ≤ sizeLine; decide, fun T hT => ?_⟩
      exact k x T p1 _ (M.grow (mS.trans (same_upd (H := (upd Hm p1 (.lst [.str "value", .str "bottom", .str "shares", .str "scale", .str "numbers"]))) (p := T) (o := .tup [.ref x, .ref p1]) hT))) upd_same ((same_upd (H := (upd Hm p1 (.lst [.str "value", .str "bottom", .str "shares", .str "scale", .str "numbers"]))) (p := T) (o := .tup [.ref x, .ref p1]) hT) _ _ ep1)
    | 1, _, k =>
      refine ⟨_, rfl, rfl, _, rfl, ?_⟩
      refine ifF (by decide +kernel) ?_
      refine ⟨_, rfl, rfl, _, rfl, ?_⟩
      refine ifT (by decide +kernel) ?_
      refine ⟨_, rfl, ?_⟩
      refine rIx_seq (hs.same g) rfl ?_
      refine ⟨_, rfl, ?_⟩
      refine rIx_seq (hs.same g) rfl ?_
      refine ⟨_, rfl, ?_⟩
      refine rIx_seq (hs.same g) rfl ?_
      refine ⟨_, rfl, ?_⟩
      refine rIx_seq (hs.same g) rfl ?_
      refine ⟨[d0, d1, d2, d3], (.cons (dp_same g h0) (.cons (dp_same g h1) (.cons (dp_same g h2) (.cons (dp_same g h3) .nil)))), rfl, sd_some sd (by show 4 ≤ 20; decide) (by intro e he; simp only [List.mem_cons, List.not_mem_nil, or_false] at he ⊢; rcases he with rfl | rfl | rfl | rfl <;> simp), fun x Hm M => ?_⟩
      have M := M.back g
      have g := M.same
      have mS : Same Hm Hm := fun _ _ z => z
      refine ⟨by show 4 ≤ sizeLine; decide, fun p1 hp1 => ?_⟩
      have g := g.trans (same_upd (H := Hm) (p := p1) (o := .lst [.str "statement", .str "branch", .str "scale", .str "numbers"]) hp1)
      have mS := mS.trans (same_upd (H := Hm) (p := p1) (o := .lst [.str "statement", .str "branch", .str "scale", .str "numbers"]) hp1)
      have ep1 : upd Hm p1 (.lst [.str "statement", .str "branch", .str "scale", .str "numbers"]) p1 = some (.lst [.str "statement", .str "branch", .str "scale", .str "numbers"]) := upd_same
      refine ⟨by show 2 ≤ sizeLine; decide, fun T hT => ?_⟩
      exact k x T p1 _ (M.grow (mS.trans (same_upd (H := (upd Hm p1 (.lst [.str "statement", .str "branch", .str "scale", .str "numbers"]))) (p := T) (o := .tup [.ref x, .ref p1]) hT))) upd_same ((same_upd (H := (upd Hm p1 (.lst [.str "statement", .str "branch", .str "scale", .str "numbers"]))) (p := T) (o := .tup [.ref x, .ref p1]) hT) _ _ ep1)
    | 2, _, k =>
      refine ⟨_, rfl, rfl, _, rfl, ?_⟩
      refine ifF (by decide +kernel) ?_
      refine ⟨_, rfl, rfl, _, rfl, ?_⟩
      refine ifF (by decide +kernel) ?_
      refine ⟨_, rfl, by show 3 ≤ sizeLine; decide, fun p1 hp1 => ?_⟩
      refine ⟨p1, _, rfl, .inr (SqT.of upd_same), rfl, rfl, _, rfl, ?_⟩
      have g := g.trans (same_upd (H := H) (p := p1) (o := .tup [.str "loose", .str "best", .str "wall"]) hp1)
      refine ifT (by decide +kernel) ?_
      refine ⟨_, rfl, rfl, _, rfl, ?_⟩
      refine ifT (by decide +kernel) ?_
      refine ⟨_, rfl, ?_⟩
      refine rIx_seq (hs.same g) rfl ?_
      refine ⟨_, rfl, ?_⟩
      refine rIx_seq (hs.same g) rfl ?_
      refine ⟨_, rfl, ?_⟩
      refine rIx_seq (hs.same g) rfl ?_
      refine ⟨[d0, d1, d2], (.cons (dp_same g h0) (.cons (dp_same g h1) (.cons (dp_same g h2) .nil))), rfl, sd_some sd (by show 3 ≤ 20; decide) (by intro e he; simp only [List.mem_cons, List.not_mem_nil, or_false] at he ⊢; rcases he with rfl | rfl | rfl <;> simp), fun x Hm M => ?_⟩
      have M := M.back g
      have g := M.same
      have mS : Same Hm Hm := fun _ _ z => z
      refine ⟨_, rfl, ?_⟩
      refine fun q2 hq2 => ?_
      have g0q2 := g.free hq2
      have m0q2 := mS.free hq2
      have g := g.trans (same_upd (H := Hm) (p := q2) (o := .dK []) hq2)
      have mS := mS.trans (same_upd (H := Hm) (p := q2) (o := .dK []) hq2)
      have eq2 : upd Hm q2 (.dK []) q2 = some (.dK []) := upd_same
      refine ⟨by show 3 ≤ sizeLine; decide, fun p3 hp3 => ?_⟩
      have g := g.trans (same_upd (H := (upd Hm q2 (.dK []))) (p := p3) (o := .lst [.str "statement", .str "branch", .str "lot"]) hp3)
      have mS := mS.trans (same_upd (H := (upd Hm q2 (.dK []))) (p := p3) (o := .lst [.str "statement", .str "branch", .str "lot"]) hp3)
      have eq2 := (same_upd (H := (upd Hm q2 (.dK []))) (p := p3) (o := .lst [.str "statement", .str "branch", .str "lot"]) hp3) _ _ eq2
      have ep3 : upd (upd Hm q2 (.dK [])) p3 (.lst [.str "statement", .str "branch", .str "lot"]) p3 = some (.lst [.str "statement", .str "branch", .str "lot"]) := upd_same
      refine ⟨by show 3 ≤ sizeLine; decide, fun p4 hp4 => ?_⟩
      have g := g.trans (same_upd (H := (upd (upd Hm q2 (.dK [])) p3 (.lst [.str "statement", .str "branch", .str "lot"]))) (p := p4) (o := .lst [.str "value", .str "plan", .str "wall"]) hp4)
      have mS := mS.trans (same_upd (H := (upd (upd Hm q2 (.dK [])) p3 (.lst [.str "statement", .str "branch", .str "lot"]))) (p := p4) (o := .lst [.str "value", .str "plan", .str "wall"]) hp4)
      have eq2 := (same_upd (H := (upd (upd Hm q2 (.dK [])) p3 (.lst [.str "statement", .str "branch", .str "lot"]))) (p := p4) (o := .lst [.str "value", .str "plan", .str "wall"]) hp4) _ _ eq2
      have ep3 := (same_upd (H := (upd (upd Hm q2 (.dK [])) p3 (.lst [.str "statement", .str "branch", .str "lot"]))) (p := p4) (o := .lst [.str "value", .str "plan", .str "wall"]) hp4) _ _ ep3
      have ep4 : upd (upd (upd Hm q2 (.dK [])) p3 (.lst [.str "statement", .str "branch", .str "lot"])) p4 (.lst [.str "value", .str "plan", .str "wall"]) p4 = some (.lst [.str "value", .str "plan", .str "wall"]) := upd_same
      refine ⟨by show 3 ≤ sizeLine; decide, fun p5 hp5 => ?_⟩
      have g := g.trans (same_upd (H := (upd (upd (upd Hm q2 (.dK [])) p3 (.lst [.str "statement", .str "branch", .str "lot"])) p4 (.lst [.str "value", .str "plan", .str "wall"]))) (p := p5) (o := .lst [.str "value", .str "fence", .str "stretches"]) hp5)
      have mS := mS.trans (same_upd (H := (upd (upd (upd Hm q2 (.dK [])) p3 (.lst [.str "statement", .str "branch", .str "lot"])) p4 (.lst [.str "value", .str "plan", .str "wall"]))) (p := p5) (o := .lst [.str "value", .str "fence", .str "stretches"]) hp5)
      have eq2 := (same_upd (H := (upd (upd (upd Hm q2 (.dK [])) p3 (.lst [.str "statement", .str "branch", .str "lot"])) p4 (.lst [.str "value", .str "plan", .str "wall"]))) (p := p5) (o := .lst [.str "value", .str "fence", .str "stretches"]) hp5) _ _ eq2
      have ep3 := (same_upd (H := (upd (upd (upd Hm q2 (.dK [])) p3 (.lst [.str "statement", .str "branch", .str "lot"])) p4 (.lst [.str "value", .str "plan", .str "wall"]))) (p := p5) (o := .lst [.str "value", .str "fence", .str "stretches"]) hp5) _ _ ep3
      have ep4 := (same_upd (H := (upd (upd (upd Hm q2 (.dK [])) p3 (.lst [.str "statement", .str "branch", .str "lot"])) p4 (.lst [.str "value", .str "plan", .str "wall"]))) (p := p5) (o := .lst [.str "value", .str "fence", .str "stretches"]) hp5) _ _ ep4
      have ep5 : upd (upd (upd (upd Hm q2 (.dK [])) p3 (.lst [.str "statement", .str "branch", .str "lot"])) p4 (.lst [.str "value", .str "plan", .str "wall"])) p5 (.lst [.str "value", .str "fence", .str "stretches"]) p5 = some (.lst [.str "value", .str "fence", .str "stretches"]) := upd_same
      refine ⟨eq2, [(.inr "loose", .ref p3), (.inr "best", .ref p4), (.inr "wall", .ref p5)], rfl, by show 3 ≤ 15; decide, ?_⟩
      have np3 : p3 ≠ q2 := ne_kinds ep3 eq2
      have ep3 : upd (upd (upd (upd (upd Hm q2 (.dK [])) p3 (.lst [.str "statement", .str "branch", .str "lot"])) p4 (.lst [.str "value", .str "plan", .str "wall"])) p5 (.lst [.str "value", .str "fence", .str "stretches"])) q2 (.dK (mergeK [] [(.inr "loose", .ref p3), (.inr "best", .ref p4), (.inr "wall", .ref p5)])) p3 = _ := (upd_ne np3).trans ep3
      have np4 : p4 ≠ q2 := ne_kinds ep4 eq2
      have ep4 : upd (upd (upd (upd (upd Hm q2 (.dK [])) p3 (.lst [.str "statement", .str "branch", .str "lot"])) p4 (.lst [.str "value", .str "plan", .str "wall"])) p5 (.lst [.str "value", .str "fence", .str "stretches"])) q2 (.dK (mergeK [] [(.inr "loose", .ref p3), (.inr "best", .ref p4), (.inr "wall", .ref p5)])) p4 = _ := (upd_ne np4).trans ep4
      have np5 : p5 ≠ q2 := ne_kinds ep5 eq2
      have ep5 : upd (upd (upd (upd (upd Hm q2 (.dK [])) p3 (.lst [.str "statement", .str "branch", .str "lot"])) p4 (.lst [.str "value", .str "plan", .str "wall"])) p5 (.lst [.str "value", .str "fence", .str "stretches"])) q2 (.dK (mergeK [] [(.inr "loose", .ref p3), (.inr "best", .ref p4), (.inr "wall", .ref p5)])) p5 = _ := (upd_ne np5).trans ep5
      have g := same_free (o := .dK (mergeK [] [(.inr "loose", .ref p3), (.inr "best", .ref p4), (.inr "wall", .ref p5)])) g g0q2
      have mS := same_free (o := .dK (mergeK [] [(.inr "loose", .ref p3), (.inr "best", .ref p4), (.inr "wall", .ref p5)])) mS m0q2
      refine ⟨_, rfl, ?_⟩
      refine ⟨q2, .ref p3, rfl, .inl ⟨_, .inr "loose", .inl upd_same, rfl, by kernel_rfl⟩, ?_⟩
      refine ⟨by show 2 ≤ sizeLine; decide, fun T hT => ?_⟩
      exact k x T p3 _ (M.grow (mS.trans (same_upd (H := (upd (upd (upd (upd (upd Hm q2 (.dK [])) p3 (.lst [.str "statement", .str "branch", .str "lot"])) p4 (.lst [.str "value", .str "plan", .str "wall"])) p5 (.lst [.str "value", .str "fence", .str "stretches"])) q2 (.dK (mergeK [] [(.inr "loose", .ref p3), (.inr "best", .ref p4), (.inr "wall", .ref p5)])))) (p := T) (o := .tup [.ref x, .ref p3]) hT))) upd_same ((same_upd (H := (upd (upd (upd (upd (upd Hm q2 (.dK [])) p3 (.lst [.str "statement", .str "branch", .str "lot"])) p4 (.lst [.str "value", .str "plan", .str "wall"])) p5 (.lst [.str "value", .str "fence", .str "stretches"])) q2 (.dK (mergeK [] [(.inr "loose", .ref p3), (.inr "best", .ref p4), (.inr "wall", .ref p5)])))) (p := T) (o := .tup [.ref x, .ref p3]) hT) _ _ ep3)
    | 3, _, k =>
      refine ⟨_, rfl, rfl, _, rfl, ?_⟩
      refine ifF (by decide +kernel) ?_
      refine ⟨_, rfl, rfl, _, rfl, ?_⟩
      refine ifF (by decide +kernel) ?_
      refine ⟨_, rfl, by show 3 ≤ sizeLine; decide, fun p1 hp1 => ?_⟩
      refine ⟨p1, _, rfl, .inr (SqT.of upd_same), rfl, rfl, _, rfl, ?_⟩
      have g := g.trans (same_upd (H := H) (p := p1) (o := .tup [.str "loose", .str "best", .str "wall"]) hp1)
      refine ifT (by decide +kernel) ?_
      refine ⟨_, rfl, rfl, _, rfl, ?_⟩
      refine ifF (by decide +kernel) ?_
      refine ⟨_, rfl, rfl, _, rfl, ?_⟩
      refine ifT (by decide +kernel) ?_
      refine ⟨_, rfl, ?_⟩
      refine rIx_seq (hs.same g) rfl ?_
      refine ⟨_, rfl, ?_⟩
      refine rIx_seq (hs.same g) rfl ?_
      refine ⟨_, rfl, ?_⟩
      refine rIx_seq (hs.same g) rfl ?_
      refine ⟨[d0, d1, d2], (.cons (dp_same g h0) (.cons (dp_same g h1) (.cons (dp_same g h2) .nil))), rfl, sd_some sd (by show 3 ≤ 20; decide) (by intro e he; simp only [List.mem_cons, List.not_mem_nil, or_false] at he ⊢; rcases he with rfl | rfl | rfl <;> simp), fun x Hm M => ?_⟩
      have M := M.back g
      have g := M.same
      have mS : Same Hm Hm := fun _ _ z => z
      refine ⟨_, rfl, ?_⟩
      refine fun q2 hq2 => ?_
      have g0q2 := g.free hq2
      have m0q2 := mS.free hq2
      have g := g.trans (same_upd (H := Hm) (p := q2) (o := .dK []) hq2)
      have mS := mS.trans (same_upd (H := Hm) (p := q2) (o := .dK []) hq2)
      have eq2 : upd Hm q2 (.dK []) q2 = some (.dK []) := upd_same
      refine ⟨by show 3 ≤ sizeLine; decide, fun p3 hp3 => ?_⟩
      have g := g.trans (same_upd (H := (upd Hm q2 (.dK []))) (p := p3) (o := .lst [.str "statement", .str "branch", .str "lot"]) hp3)
      have mS := mS.trans (same_upd (H := (upd Hm q2 (.dK []))) (p := p3) (o := .lst [.str "statement", .str "branch", .str "lot"]) hp3)
      have eq2 := (same_upd (H := (upd Hm q2 (.dK []))) (p := p3) (o := .lst [.str "statement", .str "branch", .str "lot"]) hp3) _ _ eq2
      have ep3 : upd (upd Hm q2 (.dK [])) p3 (.lst [.str "statement", .str "branch", .str "lot"]) p3 = some (.lst [.str "statement", .str "branch", .str "lot"]) := upd_same
      refine ⟨by show 3 ≤ sizeLine; decide, fun p4 hp4 => ?_⟩
      have g := g.trans (same_upd (H := (upd (upd Hm q2 (.dK [])) p3 (.lst [.str "statement", .str "branch", .str "lot"]))) (p := p4) (o := .lst [.str "value", .str "plan", .str "wall"]) hp4)
      have mS := mS.trans (same_upd (H := (upd (upd Hm q2 (.dK [])) p3 (.lst [.str "statement", .str "branch", .str "lot"]))) (p := p4) (o := .lst [.str "value", .str "plan", .str "wall"]) hp4)
      have eq2 := (same_upd (H := (upd (upd Hm q2 (.dK [])) p3 (.lst [.str "statement", .str "branch", .str "lot"]))) (p := p4) (o := .lst [.str "value", .str "plan", .str "wall"]) hp4) _ _ eq2
      have ep3 := (same_upd (H := (upd (upd Hm q2 (.dK [])) p3 (.lst [.str "statement", .str "branch", .str "lot"]))) (p := p4) (o := .lst [.str "value", .str "plan", .str "wall"]) hp4) _ _ ep3
      have ep4 : upd (upd (upd Hm q2 (.dK [])) p3 (.lst [.str "statement", .str "branch", .str "lot"])) p4 (.lst [.str "value", .str "plan", .str "wall"]) p4 = some (.lst [.str "value", .str "plan", .str "wall"]) := upd_same
      refine ⟨by show 3 ≤ sizeLine; decide, fun p5 hp5 => ?_⟩
      have g := g.trans (same_upd (H := (upd (upd (upd Hm q2 (.dK [])) p3 (.lst [.str "statement", .str "branch", .str "lot"])) p4 (.lst [.str "value", .str "plan", .str "wall"]))) (p := p5) (o := .lst [.str "value", .str "fence", .str "stretches"]) hp5)
      have mS := mS.trans (same_upd (H := (upd (upd (upd Hm q2 (.dK [])) p3 (.lst [.str "statement", .str "branch", .str "lot"])) p4 (.lst [.str "value", .str "plan", .str "wall"]))) (p := p5) (o := .lst [.str "value", .str "fence", .str "stretches"]) hp5)
      have eq2 := (same_upd (H := (upd (upd (upd Hm q2 (.dK [])) p3 (.lst [.str "statement", .str "branch", .str "lot"])) p4 (.lst [.str "value", .str "plan", .str "wall"]))) (p := p5) (o := .lst [.str "value", .str "fence", .str "stretches"]) hp5) _ _ eq2
      have ep3 := (same_upd (H := (upd (upd (upd Hm q2 (.dK [])) p3 (.lst [.str "statement", .str "branch", .str "lot"])) p4 (.lst [.str "value", .str "plan", .str "wall"]))) (p := p5) (o := .lst [.str "value", .str "fence", .str "stretches"]) hp5) _ _ ep3
      have ep4 := (same_upd (H := (upd (upd (upd Hm q2 (.dK [])) p3 (.lst [.str "statement", .str "branch", .str "lot"])) p4 (.lst [.str "value", .str "plan", .str "wall"]))) (p := p5) (o := .lst [.str "value", .str "fence", .str "stretches"]) hp5) _ _ ep4
      have ep5 : upd (upd (upd (upd Hm q2 (.dK [])) p3 (.lst [.str "statement", .str "branch", .str "lot"])) p4 (.lst [.str "value", .str "plan", .str "wall"])) p5 (.lst [.str "value", .str "fence", .str "stretches"]) p5 = some (.lst [.str "value", .str "fence", .str "stretches"]) := upd_same
      refine ⟨eq2, [(.inr "loose", .ref p3), (.inr "best", .ref p4), (.inr "wall", .ref p5)], rfl, by show 3 ≤ 15; decide, ?_⟩
      have np3 : p3 ≠ q2 := ne_kinds ep3 eq2
      have ep3 : upd (upd (upd (upd (upd Hm q2 (.dK [])) p3 (.lst [.str "statement", .str "branch", .str "lot"])) p4 (.lst [.str "value", .str "plan", .str "wall"])) p5 (.lst [.str "value", .str "fence", .str "stretches"])) q2 (.dK (mergeK [] [(.inr "loose", .ref p3), (.inr "best", .ref p4), (.inr "wall", .ref p5)])) p3 = _ := (upd_ne np3).trans ep3
      have np4 : p4 ≠ q2 := ne_kinds ep4 eq2
      have ep4 : upd (upd (upd (upd (upd Hm q2 (.dK [])) p3 (.lst [.str "statement", .str "branch", .str "lot"])) p4 (.lst [.str "value", .str "plan", .str "wall"])) p5 (.lst [.str "value", .str "fence", .str "stretches"])) q2 (.dK (mergeK [] [(.inr "loose", .ref p3), (.inr "best", .ref p4), (.inr "wall", .ref p5)])) p4 = _ := (upd_ne np4).trans ep4
      have np5 : p5 ≠ q2 := ne_kinds ep5 eq2
      have ep5 : upd (upd (upd (upd (upd Hm q2 (.dK [])) p3 (.lst [.str "statement", .str "branch", .str "lot"])) p4 (.lst [.str "value", .str "plan", .str "wall"])) p5 (.lst [.str "value", .str "fence", .str "stretches"])) q2 (.dK (mergeK [] [(.inr "loose", .ref p3), (.inr "best", .ref p4), (.inr "wall", .ref p5)])) p5 = _ := (upd_ne np5).trans ep5
      have g := same_free (o := .dK (mergeK [] [(.inr "loose", .ref p3), (.inr "best", .ref p4), (.inr "wall", .ref p5)])) g g0q2
      have mS := same_free (o := .dK (mergeK [] [(.inr "loose", .ref p3), (.inr "best", .ref p4), (.inr "wall", .ref p5)])) mS m0q2
      refine ⟨_, rfl, ?_⟩
      refine ⟨q2, .ref p4, rfl, .inl ⟨_, .inr "best", .inl upd_same, rfl, by kernel_rfl⟩, ?_⟩
      refine ⟨by show 2 ≤ sizeLine; decide, fun T hT => ?_⟩
      exact k x T p4 _ (M.grow (mS.trans (same_upd (H := (upd (upd (upd (upd (upd Hm q2 (.dK [])) p3 (.lst [.str "statement", .str "branch", .str "lot"])) p4 (.lst [.str "value", .str "plan", .str "wall"])) p5 (.lst [.str "value", .str "fence", .str "stretches"])) q2 (.dK (mergeK [] [(.inr "loose", .ref p3), (.inr "best", .ref p4), (.inr "wall", .ref p5)])))) (p := T) (o := .tup [.ref x, .ref p4]) hT))) upd_same ((same_upd (H := (upd (upd (upd (upd (upd Hm q2 (.dK [])) p3 (.lst [.str "statement", .str "branch", .str "lot"])) p4 (.lst [.str "value", .str "plan", .str "wall"])) p5 (.lst [.str "value", .str "fence", .str "stretches"])) q2 (.dK (mergeK [] [(.inr "loose", .ref p3), (.inr "best", .ref p4), (.inr "wall", .ref p5)])))) (p := T) (o := .tup [.ref x, .ref p4]) hT) _ _ ep4)
    | 4, _, k =>
      refine ⟨_, rfl, rfl, _, rfl, ?_⟩
      refine ifF (by decide +kernel) ?_
      refine ⟨_, rfl, rfl, _, rfl, ?_⟩
      refine ifF (by decide +kernel) ?_
      refine ⟨_, rfl, by show 3 ≤ sizeLine; decide, fun p1 hp1 => ?_⟩
      refine ⟨p1, _, rfl, .inr (SqT.of upd_same), rfl, rfl, _, rfl, ?_⟩
      have g := g.trans (same_upd (H := H) (p := p1) (o := .tup [.str "loose", .str "best", .str "wall"]) hp1)
      refine ifT (by decide +kernel) ?_
      refine ⟨_, rfl, rfl, _, rfl, ?_⟩
      refine ifF (by decide +kernel) ?_
      refine ⟨_, rfl, rfl, _, rfl, ?_⟩
      refine ifF (by decide +kernel) ?_
      refine ⟨_, rfl, ?_⟩
      refine rIx_seq (hs.same g) rfl ?_
      refine ⟨_, rfl, ?_⟩
      refine rIx_seq (hs.same g) rfl ?_
      refine ⟨_, rfl, ?_⟩
      refine rIx_seq (hs.same g) rfl ?_
      refine ⟨[d0, d1, d2], (.cons (dp_same g h0) (.cons (dp_same g h1) (.cons (dp_same g h2) .nil))), rfl, sd_some sd (by show 3 ≤ 20; decide) (by intro e he; simp only [List.mem_cons, List.not_mem_nil, or_false] at he ⊢; rcases he with rfl | rfl | rfl <;> simp), fun x Hm M => ?_⟩
      have M := M.back g
      have g := M.same
      have mS : Same Hm Hm := fun _ _ z => z
      refine ⟨_, rfl, ?_⟩
      refine fun q2 hq2 => ?_
      have g0q2 := g.free hq2
      have m0q2 := mS.free hq2
      have g := g.trans (same_upd (H := Hm) (p := q2) (o := .dK []) hq2)
      have mS := mS.trans (same_upd (H := Hm) (p := q2) (o := .dK []) hq2)
      have eq2 : upd Hm q2 (.dK []) q2 = some (.dK []) := upd_same
      refine ⟨by show 3 ≤ sizeLine; decide, fun p3 hp3 => ?_⟩
      have g := g.trans (same_upd (H := (upd Hm q2 (.dK []))) (p := p3) (o := .lst [.str "statement", .str "branch", .str "lot"]) hp3)
      have mS := mS.trans (same_upd (H := (upd Hm q2 (.dK []))) (p := p3) (o := .lst [.str "statement", .str "branch", .str "lot"]) hp3)
      have eq2 := (same_upd (H := (upd Hm q2 (.dK []))) (p := p3) (o := .lst [.str "statement", .str "branch", .str "lot"]) hp3) _ _ eq2
      have ep3 : upd (upd Hm q2 (.dK [])) p3 (.lst [.str "statement", .str "branch", .str "lot"]) p3 = some (.lst [.str "statement", .str "branch", .str "lot"]) := upd_same
      refine ⟨by show 3 ≤ sizeLine; decide, fun p4 hp4 => ?_⟩
      have g := g.trans (same_upd (H := (upd (upd Hm q2 (.dK [])) p3 (.lst [.str "statement", .str "branch", .str "lot"]))) (p := p4) (o := .lst [.str "value", .str "plan", .str "wall"]) hp4)
      have mS := mS.trans (same_upd (H := (upd (upd Hm q2 (.dK [])) p3 (.lst [.str "statement", .str "branch", .str "lot"]))) (p := p4) (o := .lst [.str "value", .str "plan", .str "wall"]) hp4)
      have eq2 := (same_upd (H := (upd (upd Hm q2 (.dK [])) p3 (.lst [.str "statement", .str "branch", .str "lot"]))) (p := p4) (o := .lst [.str "value", .str "plan", .str "wall"]) hp4) _ _ eq2
      have ep3 := (same_upd (H := (upd (upd Hm q2 (.dK [])) p3 (.lst [.str "statement", .str "branch", .str "lot"]))) (p := p4) (o := .lst [.str "value", .str "plan", .str "wall"]) hp4) _ _ ep3
      have ep4 : upd (upd (upd Hm q2 (.dK [])) p3 (.lst [.str "statement", .str "branch", .str "lot"])) p4 (.lst [.str "value", .str "plan", .str "wall"]) p4 = some (.lst [.str "value", .str "plan", .str "wall"]) := upd_same
      refine ⟨by show 3 ≤ sizeLine; decide, fun p5 hp5 => ?_⟩
      have g := g.trans (same_upd (H := (upd (upd (upd Hm q2 (.dK [])) p3 (.lst [.str "statement", .str "branch", .str "lot"])) p4 (.lst [.str "value", .str "plan", .str "wall"]))) (p := p5) (o := .lst [.str "value", .str "fence", .str "stretches"]) hp5)
      have mS := mS.trans (same_upd (H := (upd (upd (upd Hm q2 (.dK [])) p3 (.lst [.str "statement", .str "branch", .str "lot"])) p4 (.lst [.str "value", .str "plan", .str "wall"]))) (p := p5) (o := .lst [.str "value", .str "fence", .str "stretches"]) hp5)
      have eq2 := (same_upd (H := (upd (upd (upd Hm q2 (.dK [])) p3 (.lst [.str "statement", .str "branch", .str "lot"])) p4 (.lst [.str "value", .str "plan", .str "wall"]))) (p := p5) (o := .lst [.str "value", .str "fence", .str "stretches"]) hp5) _ _ eq2
      have ep3 := (same_upd (H := (upd (upd (upd Hm q2 (.dK [])) p3 (.lst [.str "statement", .str "branch", .str "lot"])) p4 (.lst [.str "value", .str "plan", .str "wall"]))) (p := p5) (o := .lst [.str "value", .str "fence", .str "stretches"]) hp5) _ _ ep3
      have ep4 := (same_upd (H := (upd (upd (upd Hm q2 (.dK [])) p3 (.lst [.str "statement", .str "branch", .str "lot"])) p4 (.lst [.str "value", .str "plan", .str "wall"]))) (p := p5) (o := .lst [.str "value", .str "fence", .str "stretches"]) hp5) _ _ ep4
      have ep5 : upd (upd (upd (upd Hm q2 (.dK [])) p3 (.lst [.str "statement", .str "branch", .str "lot"])) p4 (.lst [.str "value", .str "plan", .str "wall"])) p5 (.lst [.str "value", .str "fence", .str "stretches"]) p5 = some (.lst [.str "value", .str "fence", .str "stretches"]) := upd_same
      refine ⟨eq2, [(.inr "loose", .ref p3), (.inr "best", .ref p4), (.inr "wall", .ref p5)], rfl, by show 3 ≤ 15; decide, ?_⟩
      have np3 : p3 ≠ q2 := ne_kinds ep3 eq2
      have ep3 : upd (upd (upd (upd (upd Hm q2 (.dK [])) p3 (.lst [.str "statement", .str "branch", .str "lot"])) p4 (.lst [.str "value", .str "plan", .str "wall"])) p5 (.lst [.str "value", .str "fence", .str "stretches"])) q2 (.dK (mergeK [] [(.inr "loose", .ref p3), (.inr "best", .ref p4), (.inr "wall", .ref p5)])) p3 = _ := (upd_ne np3).trans ep3
      have np4 : p4 ≠ q2 := ne_kinds ep4 eq2
      have ep4 : upd (upd (upd (upd (upd Hm q2 (.dK [])) p3 (.lst [.str "statement", .str "branch", .str "lot"])) p4 (.lst [.str "value", .str "plan", .str "wall"])) p5 (.lst [.str "value", .str "fence", .str "stretches"])) q2 (.dK (mergeK [] [(.inr "loose", .ref p3), (.inr "best", .ref p4), (.inr "wall", .ref p5)])) p4 = _ := (upd_ne np4).trans ep4
      have np5 : p5 ≠ q2 := ne_kinds ep5 eq2
      have ep5 : upd (upd (upd (upd (upd Hm q2 (.dK [])) p3 (.lst [.str "statement", .str "branch", .str "lot"])) p4 (.lst [.str "value", .str "plan", .str "wall"])) p5 (.lst [.str "value", .str "fence", .str "stretches"])) q2 (.dK (mergeK [] [(.inr "loose", .ref p3), (.inr "best", .ref p4), (.inr "wall", .ref p5)])) p5 = _ := (upd_ne np5).trans ep5
      have g := same_free (o := .dK (mergeK [] [(.inr "loose", .ref p3), (.inr "best", .ref p4), (.inr "wall", .ref p5)])) g g0q2
      have mS := same_free (o := .dK (mergeK [] [(.inr "loose", .ref p3), (.inr "best", .ref p4), (.inr "wall", .ref p5)])) mS m0q2
      refine ⟨_, rfl, ?_⟩
      refine ⟨q2, .ref p5, rfl, .inl ⟨_, .inr "wall", .inl upd_same, rfl, by kernel_rfl⟩, ?_⟩
      refine ⟨by show 2 ≤ sizeLine; decide, fun T hT => ?_⟩
      exact k x T p5 _ (M.grow (mS.trans (same_upd (H := (upd (upd (upd (upd (upd Hm q2 (.dK [])) p3 (.lst [.str "statement", .str "branch", .str "lot"])) p4 (.lst [.str "value", .str "plan", .str "wall"])) p5 (.lst [.str "value", .str "fence", .str "stretches"])) q2 (.dK (mergeK [] [(.inr "loose", .ref p3), (.inr "best", .ref p4), (.inr "wall", .ref p5)])))) (p := T) (o := .tup [.ref x, .ref p5]) hT))) upd_same ((same_upd (H := (upd (upd (upd (upd (upd Hm q2 (.dK [])) p3 (.lst [.str "statement", .str "branch", .str "lot"])) p4 (.lst [.str "value", .str "plan", .str "wall"])) p5 (.lst [.str "value", .str "fence", .str "stretches"])) q2 (.dK (mergeK [] [(.inr "loose", .ref p3), (.inr "best", .ref p4), (.inr "wall", .ref p5)])))) (p := T) (o := .tup [.ref x, .ref p5]) hT) _ _ ep5)
    | 5, _, k =>
      refine ⟨_, rfl, rfl, _, rfl, ?_⟩
      refine ifF (by decide +kernel) ?_
      refine ⟨_, rfl, rfl, _, rfl, ?_⟩
      refine ifF (by decide +kernel) ?_
      refine ⟨_, rfl, by show 3 ≤ sizeLine; decide, fun p1 hp1 => ?_⟩
      refine ⟨p1, _, rfl, .inr (SqT.of upd_same), rfl, rfl, _, rfl, ?_⟩
      have g := g.trans (same_upd (H := H) (p := p1) (o := .tup [.str "loose", .str "best", .str "wall"]) hp1)
      refine ifF (by decide +kernel) ?_
      refine ⟨_, rfl, by show 2 ≤ sizeLine; decide, fun p2 hp2 => ?_⟩
      refine ⟨p2, _, rfl, .inr (SqT.of upd_same), rfl, rfl, _, rfl, ?_⟩
      have g := g.trans (same_upd (H := (upd H p1 (.tup [.str "loose", .str "best", .str "wall"]))) (p := p2) (o := .tup [.str "plan", .str "bare"]) hp2)
      refine ifT (by decide +kernel) ?_
      refine ⟨_, rfl, rfl, _, rfl, ?_⟩
      refine ifT (by decide +kernel) ?_
      refine ⟨_, rfl, ?_⟩
      refine rIx_seq (hs.same g) rfl ?_
      refine ⟨_, rfl, ?_⟩
      refine rIx_seq (hs.same g) rfl ?_
      refine ⟨[d0, d1], (.cons (dp_same g h0) (.cons (dp_same g h1) .nil)), rfl, sd_some sd (by show 2 ≤ 20; decide) (by intro e he; simp only [List.mem_cons, List.not_mem_nil, or_false] at he ⊢; rcases he with rfl | rfl <;> simp), fun x Hm M => ?_⟩
      have M := M.back g
      have g := M.same
      have mS : Same Hm Hm := fun _ _ z => z
      refine ⟨_, rfl, rfl, _, rfl, ?_⟩
      refine ifT (by decide +kernel) ?_
      refine ⟨by show 2 ≤ sizeLine; decide, fun p3 hp3 => ?_⟩
      have g := g.trans (same_upd (H := Hm) (p := p3) (o := .lst [.str "threshold", .str "rows"]) hp3)
      have mS := mS.trans (same_upd (H := Hm) (p := p3) (o := .lst [.str "threshold", .str "rows"]) hp3)
      have ep3 : upd Hm p3 (.lst [.str "threshold", .str "rows"]) p3 = some (.lst [.str "threshold", .str "rows"]) := upd_same
      refine ⟨by show 2 ≤ sizeLine; decide, fun T hT => ?_⟩
      exact k x T p3 _ (M.grow (mS.trans (same_upd (H := (upd Hm p3 (.lst [.str "threshold", .str "rows"]))) (p := T) (o := .tup [.ref x, .ref p3]) hT))) upd_same ((same_upd (H := (upd Hm p3 (.lst [.str "threshold", .str "rows"]))) (p := T) (o := .tup [.ref x, .ref p3]) hT) _ _ ep3)
    | 6, _, k =>
      refine ⟨_, rfl, rfl, _, rfl, ?_⟩
      refine ifF (by decide +kernel) ?_
      refine ⟨_, rfl, rfl, _, rfl, ?_⟩
      refine ifF (by decide +kernel) ?_
      refine ⟨_, rfl, by show 3 ≤ sizeLine; decide, fun p1 hp1 => ?_⟩
      refine ⟨p1, _, rfl, .inr (SqT.of upd_same), rfl, rfl, _, rfl, ?_⟩
      have g := g.trans (same_upd (H := H) (p := p1) (o := .tup [.str "loose", .str "best", .str "wall"]) hp1)
      refine ifF (by decide +kernel) ?_
      refine ⟨_, rfl, by show 2 ≤ sizeLine; decide, fun p2 hp2 => ?_⟩
      refine ⟨p2, _, rfl, .inr (SqT.of upd_same), rfl, rfl, _, rfl, ?_⟩
      have g := g.trans (same_upd (H := (upd H p1 (.tup [.str "loose", .str "best", .str "wall"]))) (p := p2) (o := .tup [.str "plan", .str "bare"]) hp2)
      refine ifT (by decide +kernel) ?_
      refine ⟨_, rfl, rfl, _, rfl, ?_⟩
      refine ifF (by decide +kernel) ?_
      refine ⟨_, rfl, ?_⟩
      refine rIx_seq (hs.same g) rfl ?_
      refine ⟨_, rfl, ?_⟩
      refine rIx_seq (hs.same g) rfl ?_
      refine ⟨[d0, d1], (.cons (dp_same g h0) (.cons (dp_same g h1) .nil)), rfl, sd_some sd (by show 2 ≤ 20; decide) (by intro e he; simp only [List.mem_cons, List.not_mem_nil, or_false] at he ⊢; rcases he with rfl | rfl <;> simp), fun x Hm M => ?_⟩
      have M := M.back g
      have g := M.same
      have mS : Same Hm Hm := fun _ _ z => z
      refine ⟨_, rfl, rfl, _, rfl, ?_⟩
      refine ifF (by decide +kernel) ?_
      refine ⟨by show 2 ≤ sizeLine; decide, fun p3 hp3 => ?_⟩
      have g := g.trans (same_upd (H := Hm) (p := p3) (o := .lst [.str "lots", .str "bars"]) hp3)
      have mS := mS.trans (same_upd (H := Hm) (p := p3) (o := .lst [.str "lots", .str "bars"]) hp3)
      have ep3 : upd Hm p3 (.lst [.str "lots", .str "bars"]) p3 = some (.lst [.str "lots", .str "bars"]) := upd_same
      refine ⟨by show 2 ≤ sizeLine; decide, fun T hT => ?_⟩
      exact k x T p3 _ (M.grow (mS.trans (same_upd (H := (upd Hm p3 (.lst [.str "lots", .str "bars"]))) (p := T) (o := .tup [.ref x, .ref p3]) hT))) upd_same ((same_upd (H := (upd Hm p3 (.lst [.str "lots", .str "bars"]))) (p := T) (o := .tup [.ref x, .ref p3]) hT) _ _ ep3)
    | 7, _, k =>
      refine ⟨_, rfl, rfl, _, rfl, ?_⟩
      refine ifF (by decide +kernel) ?_
      refine ⟨_, rfl, rfl, _, rfl, ?_⟩
      refine ifF (by decide +kernel) ?_
      refine ⟨_, rfl, by show 3 ≤ sizeLine; decide, fun p1 hp1 => ?_⟩
      refine ⟨p1, _, rfl, .inr (SqT.of upd_same), rfl, rfl, _, rfl, ?_⟩
      have g := g.trans (same_upd (H := H) (p := p1) (o := .tup [.str "loose", .str "best", .str "wall"]) hp1)
      refine ifF (by decide +kernel) ?_
      refine ⟨_, rfl, by show 2 ≤ sizeLine; decide, fun p2 hp2 => ?_⟩
      refine ⟨p2, _, rfl, .inr (SqT.of upd_same), rfl, rfl, _, rfl, ?_⟩
      have g := g.trans (same_upd (H := (upd H p1 (.tup [.str "loose", .str "best", .str "wall"]))) (p := p2) (o := .tup [.str "plan", .str "bare"]) hp2)
      refine ifF (by decide +kernel) ?_
      refine ⟨_, rfl, rfl, _, rfl, ?_⟩
      refine ifT (by decide +kernel) ?_
      refine ⟨_, rfl, ?_⟩
      refine rIx_seq (hs.same g) rfl ?_
      refine ⟨[d0], (.cons (dp_same g h0) .nil), rfl, sd_some sd (by show 1 ≤ 20; decide) (by intro e he; simp only [List.mem_cons, List.not_mem_nil, or_false] at he ⊢; subst he; simp), fun x Hm M => ?_⟩
      have M := M.back g
      have g := M.same
      have mS : Same Hm Hm := fun _ _ z => z
      refine ⟨_, rfl, ?_⟩
      refine fun q3 hq3 => ?_
      have g0q3 := g.free hq3
      have m0q3 := mS.free hq3
      have g := g.trans (same_upd (H := Hm) (p := q3) (o := .dK []) hq3)
      have mS := mS.trans (same_upd (H := Hm) (p := q3) (o := .dK []) hq3)
      have eq3 : upd Hm q3 (.dK []) q3 = some (.dK []) := upd_same
      refine ⟨eq3, [(.inr "keeps", .str "rows"), (.inr "right", .str "fits"), (.inr "barred", .str "name"), (.inr "unbounded", .str "lot")], rfl, by show 4 ≤ 15; decide, ?_⟩
      have g := same_free (o := .dK (mergeK [] [(.inr "keeps", .str "rows"), (.inr "right", .str "fits"), (.inr "barred", .str "name"), (.inr "unbounded", .str "lot")])) g g0q3
      have mS := same_free (o := .dK (mergeK [] [(.inr "keeps", .str "rows"), (.inr "right", .str "fits"), (.inr "barred", .str "name"), (.inr "unbounded", .str "lot")])) mS m0q3
      refine ⟨_, rfl, ?_⟩
      refine ⟨q3, .str "rows", rfl, .inl ⟨_, .inr "keeps", .inl upd_same, rfl, by kernel_rfl⟩, ?_⟩
      refine ⟨by show 1 ≤ sizeLine; decide, fun p4 hp4 => ?_⟩
      have g := g.trans (same_upd (H := (upd (upd Hm q3 (.dK [])) q3 (.dK (mergeK [] [(.inr "keeps", .str "rows"), (.inr "right", .str "fits"), (.inr "barred", .str "name"), (.inr "unbounded", .str "lot")])))) (p := p4) (o := .lst [.str "rows"]) hp4)
      have mS := mS.trans (same_upd (H := (upd (upd Hm q3 (.dK [])) q3 (.dK (mergeK [] [(.inr "keeps", .str "rows"), (.inr "right", .str "fits"), (.inr "barred", .str "name"), (.inr "unbounded", .str "lot")])))) (p := p4) (o := .lst [.str "rows"]) hp4)
      have ep4 : upd (upd (upd Hm q3 (.dK [])) q3 (.dK (mergeK [] [(.inr "keeps", .str "rows"), (.inr "right", .str "fits"), (.inr "barred", .str "name"), (.inr "unbounded", .str "lot")]))) p4 (.lst [.str "rows"]) p4 = some (.lst [.str "rows"]) := upd_same
      refine ⟨by show 2 ≤ sizeLine; decide, fun T hT => ?_⟩
      exact k x T p4 _ (M.grow (mS.trans (same_upd (H := (upd (upd (upd Hm q3 (.dK [])) q3 (.dK (mergeK [] [(.inr "keeps", .str "rows"), (.inr "right", .str "fits"), (.inr "barred", .str "name"), (.inr "unbounded", .str "lot")]))) p4 (.lst [.str "rows"]))) (p := T) (o := .tup [.ref x, .ref p4]) hT))) upd_same ((same_upd (H := (upd (upd (upd Hm q3 (.dK [])) q3 (.dK (mergeK [] [(.inr "keeps", .str "rows"), (.inr "right", .str "fits"), (.inr "barred", .str "name"), (.inr "unbounded", .str "lot")]))) p4 (.lst [.str "rows"]))) (p := T) (o := .tup [.ref x, .ref p4]) hT) _ _ ep4)
    | 8, _, k =>
      refine ⟨_, rfl, rfl, _, rfl, ?_⟩
      refine ifF (by decide +kernel) ?_
      refine ⟨_, rfl, rfl, _, rfl, ?_⟩
      refine ifF (by decide +kernel) ?_
      refine ⟨_, rfl, by show 3 ≤ sizeLine; decide, fun p1 hp1 => ?_⟩
      refine ⟨p1, _, rfl, .inr (SqT.of upd_same), rfl, rfl, _, rfl, ?_⟩
      have g := g.trans (same_upd (H := H) (p := p1) (o := .tup [.str "loose", .str "best", .str "wall"]) hp1)
      refine ifF (by decide +kernel) ?_
      refine ⟨_, rfl, by show 2 ≤ sizeLine; decide, fun p2 hp2 => ?_⟩
      refine ⟨p2, _, rfl, .inr (SqT.of upd_same), rfl, rfl, _, rfl, ?_⟩
      have g := g.trans (same_upd (H := (upd H p1 (.tup [.str "loose", .str "best", .str "wall"]))) (p := p2) (o := .tup [.str "plan", .str "bare"]) hp2)
      refine ifF (by decide +kernel) ?_
      refine ⟨_, rfl, rfl, _, rfl, ?_⟩
      refine ifF (by decide +kernel) ?_
      refine ⟨_, rfl, rfl, _, rfl, ?_⟩
      refine ifT (by decide +kernel) ?_
      refine ⟨_, rfl, ?_⟩
      refine rIx_seq (hs.same g) rfl ?_
      refine ⟨[d0], (.cons (dp_same g h0) .nil), rfl, sd_some sd (by show 1 ≤ 20; decide) (by intro e he; simp only [List.mem_cons, List.not_mem_nil, or_false] at he ⊢; subst he; simp), fun x Hm M => ?_⟩
      have M := M.back g
      have g := M.same
      have mS : Same Hm Hm := fun _ _ z => z
      refine ⟨_, rfl, ?_⟩
      refine fun q3 hq3 => ?_
      have g0q3 := g.free hq3
      have m0q3 := mS.free hq3
      have g := g.trans (same_upd (H := Hm) (p := q3) (o := .dK []) hq3)
      have mS := mS.trans (same_upd (H := Hm) (p := q3) (o := .dK []) hq3)
      have eq3 : upd Hm q3 (.dK []) q3 = some (.dK []) := upd_same
      refine ⟨eq3, [(.inr "keeps", .str "rows"), (.inr "right", .str "fits"), (.inr "barred", .str "name"), (.inr "unbounded", .str "lot")], rfl, by show 4 ≤ 15; decide, ?_⟩
      have g := same_free (o := .dK (mergeK [] [(.inr "keeps", .str "rows"), (.inr "right", .str "fits"), (.inr "barred", .str "name"), (.inr "unbounded", .str "lot")])) g g0q3
      have mS := same_free (o := .dK (mergeK [] [(.inr "keeps", .str "rows"), (.inr "right", .str "fits"), (.inr "barred", .str "name"), (.inr "unbounded", .str "lot")])) mS m0q3
      refine ⟨_, rfl, ?_⟩
      refine ⟨q3, .str "fits", rfl, .inl ⟨_, .inr "right", .inl upd_same, rfl, by kernel_rfl⟩, ?_⟩
      refine ⟨by show 1 ≤ sizeLine; decide, fun p4 hp4 => ?_⟩
      have g := g.trans (same_upd (H := (upd (upd Hm q3 (.dK [])) q3 (.dK (mergeK [] [(.inr "keeps", .str "rows"), (.inr "right", .str "fits"), (.inr "barred", .str "name"), (.inr "unbounded", .str "lot")])))) (p := p4) (o := .lst [.str "fits"]) hp4)
      have mS := mS.trans (same_upd (H := (upd (upd Hm q3 (.dK [])) q3 (.dK (mergeK [] [(.inr "keeps", .str "rows"), (.inr "right", .str "fits"), (.inr "barred", .str "name"), (.inr "unbounded", .str "lot")])))) (p := p4) (o := .lst [.str "fits"]) hp4)
      have ep4 : upd (upd (upd Hm q3 (.dK [])) q3 (.dK (mergeK [] [(.inr "keeps", .str "rows"), (.inr "right", .str "fits"), (.inr "barred", .str "name"), (.inr "unbounded", .str "lot")]))) p4 (.lst [.str "fits"]) p4 = some (.lst [.str "fits"]) := upd_same
      refine ⟨by show 2 ≤ sizeLine; decide, fun T hT => ?_⟩
      exact k x T p4 _ (M.grow (mS.trans (same_upd (H := (upd (upd (upd Hm q3 (.dK [])) q3 (.dK (mergeK [] [(.inr "keeps", .str "rows"), (.inr "right", .str "fits"), (.inr "barred", .str "name"), (.inr "unbounded", .str "lot")]))) p4 (.lst [.str "fits"]))) (p := T) (o := .tup [.ref x, .ref p4]) hT))) upd_same ((same_upd (H := (upd (upd (upd Hm q3 (.dK [])) q3 (.dK (mergeK [] [(.inr "keeps", .str "rows"), (.inr "right", .str "fits"), (.inr "barred", .str "name"), (.inr "unbounded", .str "lot")]))) p4 (.lst [.str "fits"]))) (p := T) (o := .tup [.ref x, .ref p4]) hT) _ _ ep4)
    | 9, _, k =>
      refine ⟨_, rfl, rfl, _, rfl, ?_⟩
      refine ifF (by decide +kernel) ?_
      refine ⟨_, rfl, rfl, _, rfl, ?_⟩
      refine ifF (by decide +kernel) ?_
      refine ⟨_, rfl, by show 3 ≤ sizeLine; decide, fun p1 hp1 => ?_⟩
      refine ⟨p1, _, rfl, .inr (SqT.of upd_same), rfl, rfl, _, rfl, ?_⟩
      have g := g.trans (same_upd (H := H) (p := p1) (o := .tup [.str "loose", .str "best", .str "wall"]) hp1)
      refine ifF (by decide +kernel) ?_
      refine ⟨_, rfl, by show 2 ≤ sizeLine; decide, fun p2 hp2 => ?_⟩
      refine ⟨p2, _, rfl, .inr (SqT.of upd_same), rfl, rfl, _, rfl, ?_⟩
      have g := g.trans (same_upd (H := (upd H p1 (.tup [.str "loose", .str "best", .str "wall"]))) (p := p2) (o := .tup [.str "plan", .str "bare"]) hp2)
      refine ifF (by decide +kernel) ?_
      refine ⟨_, rfl, rfl, _, rfl, ?_⟩
      refine ifF (by decide +kernel) ?_
      refine ⟨_, rfl, rfl, _, rfl, ?_⟩
      refine ifF (by decide +kernel) ?_
      refine ⟨_, rfl, rfl, _, rfl, ?_⟩
      refine ifT (by decide +kernel) ?_
      refine ⟨_, rfl, ?_⟩
      refine rIx_seq (hs.same g) rfl ?_
      refine ⟨[d0], (.cons (dp_same g h0) .nil), rfl, sd_some sd (by show 1 ≤ 20; decide) (by intro e he; simp only [List.mem_cons, List.not_mem_nil, or_false] at he ⊢; subst he; simp), fun x Hm M => ?_⟩
      have M := M.back g
      have g := M.same
      have mS : Same Hm Hm := fun _ _ z => z
      refine ⟨_, rfl, ?_⟩
      refine fun q3 hq3 => ?_
      have g0q3 := g.free hq3
      have m0q3 := mS.free hq3
      have g := g.trans (same_upd (H := Hm) (p := q3) (o := .dK []) hq3)
      have mS := mS.trans (same_upd (H := Hm) (p := q3) (o := .dK []) hq3)
      have eq3 : upd Hm q3 (.dK []) q3 = some (.dK []) := upd_same
      refine ⟨eq3, [(.inr "keeps", .str "rows"), (.inr "right", .str "fits"), (.inr "barred", .str "name"), (.inr "unbounded", .str "lot")], rfl, by show 4 ≤ 15; decide, ?_⟩
      have g := same_free (o := .dK (mergeK [] [(.inr "keeps", .str "rows"), (.inr "right", .str "fits"), (.inr "barred", .str "name"), (.inr "unbounded", .str "lot")])) g g0q3
      have mS := same_free (o := .dK (mergeK [] [(.inr "keeps", .str "rows"), (.inr "right", .str "fits"), (.inr "barred", .str "name"), (.inr "unbounded", .str "lot")])) mS m0q3
      refine ⟨_, rfl, ?_⟩
      refine ⟨q3, .str "name", rfl, .inl ⟨_, .inr "barred", .inl upd_same, rfl, by kernel_rfl⟩, ?_⟩
      refine ⟨by show 1 ≤ sizeLine; decide, fun p4 hp4 => ?_⟩
      have g := g.trans (same_upd (H := (upd (upd Hm q3 (.dK [])) q3 (.dK (mergeK [] [(.inr "keeps", .str "rows"), (.inr "right", .str "fits"), (.inr "barred", .str "name"), (.inr "unbounded", .str "lot")])))) (p := p4) (o := .lst [.str "name"]) hp4)
      have mS := mS.trans (same_upd (H := (upd (upd Hm q3 (.dK [])) q3 (.dK (mergeK [] [(.inr "keeps", .str "rows"), (.inr "right", .str "fits"), (.inr "barred", .str "name"), (.inr "unbounded", .str "lot")])))) (p := p4) (o := .lst [.str "name"]) hp4)
      have ep4 : upd (upd (upd Hm q3 (.dK [])) q3 (.dK (mergeK [] [(.inr "keeps", .str "rows"), (.inr "right", .str "fits"), (.inr "barred", .str "name"), (.inr "unbounded", .str "lot")]))) p4 (.lst [.str "name"]) p4 = some (.lst [.str "name"]) := upd_same
      refine ⟨by show 2 ≤ sizeLine; decide, fun T hT => ?_⟩
      exact k x T p4 _ (M.grow (mS.trans (same_upd (H := (upd (upd (upd Hm q3 (.dK [])) q3 (.dK (mergeK [] [(.inr "keeps", .str "rows"), (.inr "right", .str "fits"), (.inr "barred", .str "name"), (.inr "unbounded", .str "lot")]))) p4 (.lst [.str "name"]))) (p := T) (o := .tup [.ref x, .ref p4]) hT))) upd_same ((same_upd (H := (upd (upd (upd Hm q3 (.dK [])) q3 (.dK (mergeK [] [(.inr "keeps", .str "rows"), (.inr "right", .str "fits"), (.inr "barred", .str "name"), (.inr "unbounded", .str "lot")]))) p4 (.lst [.str "name"]))) (p := T) (o := .tup [.ref x, .ref p4]) hT) _ _ ep4)
    | 10, _, k =>
      refine ⟨_, rfl, rfl, _, rfl, ?_⟩
      refine ifF (by decide +kernel) ?_
      refine ⟨_, rfl, rfl, _, rfl, ?_⟩
      refine ifF (by decide +kernel) ?_
      refine ⟨_, rfl, by show 3 ≤ sizeLine; decide, fun p1 hp1 => ?_⟩
      refine ⟨p1, _, rfl, .inr (SqT.of upd_same), rfl, rfl, _, rfl, ?_⟩
      have g := g.trans (same_upd (H := H) (p := p1) (o := .tup [.str "loose", .str "best", .str "wall"]) hp1)
      refine ifF (by decide +kernel) ?_
      refine ⟨_, rfl, by show 2 ≤ sizeLine; decide, fun p2 hp2 => ?_⟩
      refine ⟨p2, _, rfl, .inr (SqT.of upd_same), rfl, rfl, _, rfl, ?_⟩
      have g := g.trans (same_upd (H := (upd H p1 (.tup [.str "loose", .str "best", .str "wall"]))) (p := p2) (o := .tup [.str "plan", .str "bare"]) hp2)
      refine ifF (by decide +kernel) ?_
      refine ⟨_, rfl, rfl, _, rfl, ?_⟩
      refine ifF (by decide +kernel) ?_
      refine ⟨_, rfl, rfl, _, rfl, ?_⟩
      refine ifF (by decide +kernel) ?_
      refine ⟨_, rfl, rfl, _, rfl, ?_⟩
      refine ifF (by decide +kernel) ?_
      refine ⟨_, rfl, ?_⟩
      refine rIx_seq (hs.same g) rfl ?_
      refine ⟨[d0], (.cons (dp_same g h0) .nil), rfl, sd_some sd (by show 1 ≤ 20; decide) (by intro e he; simp only [List.mem_cons, List.not_mem_nil, or_false] at he ⊢; subst he; simp), fun x Hm M => ?_⟩
      have M := M.back g
      have g := M.same
      have mS : Same Hm Hm := fun _ _ z => z
      refine ⟨_, rfl, ?_⟩
      refine fun q3 hq3 => ?_
      have g0q3 := g.free hq3
      have m0q3 := mS.free hq3
      have g := g.trans (same_upd (H := Hm) (p := q3) (o := .dK []) hq3)
      have mS := mS.trans (same_upd (H := Hm) (p := q3) (o := .dK []) hq3)
      have eq3 : upd Hm q3 (.dK []) q3 = some (.dK []) := upd_same
      refine ⟨eq3, [(.inr "keeps", .str "rows"), (.inr "right", .str "fits"), (.inr "barred", .str "name"), (.inr "unbounded", .str "lot")], rfl, by show 4 ≤ 15; decide, ?_⟩
      have g := same_free (o := .dK (mergeK [] [(.inr "keeps", .str "rows"), (.inr "right", .str "fits"), (.inr "barred", .str "name"), (.inr "unbounded", .str "lot")])) g g0q3
      have mS := same_free (o := .dK (mergeK [] [(.inr "keeps", .str "rows"), (.inr "right", .str "fits"), (.inr "barred", .str "name"), (.inr "unbounded", .str "lot")])) mS m0q3
      refine ⟨_, rfl, ?_⟩
      refine ⟨q3, .str "lot", rfl, .inl ⟨_, .inr "unbounded", .inl upd_same, rfl, by kernel_rfl⟩, ?_⟩
      refine ⟨by show 1 ≤ sizeLine; decide, fun p4 hp4 => ?_⟩
      have g := g.trans (same_upd (H := (upd (upd Hm q3 (.dK [])) q3 (.dK (mergeK [] [(.inr "keeps", .str "rows"), (.inr "right", .str "fits"), (.inr "barred", .str "name"), (.inr "unbounded", .str "lot")])))) (p := p4) (o := .lst [.str "lot"]) hp4)
      have mS := mS.trans (same_upd (H := (upd (upd Hm q3 (.dK [])) q3 (.dK (mergeK [] [(.inr "keeps", .str "rows"), (.inr "right", .str "fits"), (.inr "barred", .str "name"), (.inr "unbounded", .str "lot")])))) (p := p4) (o := .lst [.str "lot"]) hp4)
      have ep4 : upd (upd (upd Hm q3 (.dK [])) q3 (.dK (mergeK [] [(.inr "keeps", .str "rows"), (.inr "right", .str "fits"), (.inr "barred", .str "name"), (.inr "unbounded", .str "lot")]))) p4 (.lst [.str "lot"]) p4 = some (.lst [.str "lot"]) := upd_same
      refine ⟨by show 2 ≤ sizeLine; decide, fun T hT => ?_⟩
      exact k x T p4 _ (M.grow (mS.trans (same_upd (H := (upd (upd (upd Hm q3 (.dK [])) q3 (.dK (mergeK [] [(.inr "keeps", .str "rows"), (.inr "right", .str "fits"), (.inr "barred", .str "name"), (.inr "unbounded", .str "lot")]))) p4 (.lst [.str "lot"]))) (p := T) (o := .tup [.ref x, .ref p4]) hT))) upd_same ((same_upd (H := (upd (upd (upd Hm q3 (.dK [])) q3 (.dK (mergeK [] [(.inr "keeps", .str "rows"), (.inr "right", .str "fits"), (.inr "barred", .str "name"), (.inr "unbounded", .str "lot")]))) p4 (.lst [.str "lot"]))) (p := T) (o := .tup [.ref x, .ref p4]) hT) _ _ ep4)
    | n + 11, h, _ => exact absurd h (by omega)
end
end K8
set_option Elab.async false
set_option linter.all false
set_option maxRecDepth 100000
set_option maxHeartbeats 4000000
namespace K8
open PySem PySem.Spec PyProof.Rows L2 NdefX
abbrev sTold : Stmt := top 47
def spTold (K : PySem.W.Frag) (CC : Nat → Addr) : Sp := fun vs H Q _ => ∃ (i : Nat) (x dx pv : Addr) (ws : List V), i < 11 ∧ vs = [.ref x, .str (nmOf i)] ∧ Cls K (CC i) ∧ (∀ y ∈ flOf i, NoAttr K (CC i) y) ∧ ws.length = (flOf i).length ∧
  H x = some (.ins (CC i) dx (fldsOf (flOf i) ws [("own_parts", .ref pv)])) ∧ ∀ (L : Addr) (H' : Hp), Same H H' → H L = none → H' L = some (.lst ws) → Q (.ref L) H'
section
variable {P : Program} {w : World} {K : PySem.W.Frag} {mg : Str → Option Value} {base : Heap} {Pa : Addr}
theorem scTold : FnScope ["paper", "name"] ["paper", "name"] (defScope sTold) := ⟨rfl, rfl, rfl, by decide +kernel, rfl, by decide +kernel, by decide +kernel⟩
theorem ok_told {CC : Nat → Addr} {f : Addr} {fd : FuncData} (F : FnP K "_law_told" "_law_told" sTold f fd) : FnOk P w K mg base CX0 1 f fd ["paper", "name"] (spTold K CC) := by
  refine F.ok scTold (fun vs H Q E h => ?_) (fun cdv A outer s H vs Q E hr h => ?_)
  · obtain ⟨i, x, dx, pv, ws, _, rfl, _⟩ := h
    rfl
  · obtain ⟨i, x, dx, pv, ws, hi, rfl, cl, na, hl, e, k⟩ := h
    refine ⟨_, PSs.nox (pss_cons (ps_if (pt_cmpR op_eq (L2.pv 1) pe_str (nomark _)) (pss_one (ps_ret (pe_lst (pa_cons (pe_fld (L2.pv 0) rfl) (pa_cons (pe_fld (L2.pv 0) rfl) (pa_cons (pe_fld (L2.pv 0) rfl) (pa_cons (pe_fld (L2.pv 0) rfl) (pa_cons (pe_fld (L2.pv 0) rfl) pa_nil)))))))) pss_nil)
        (pss_cons (ps_if (pt_cmpR op_eq (L2.pv 1) pe_str (nomark _)) (pss_one (ps_ret (pe_lst (pa_cons (pe_fld (L2.pv 0) rfl) (pa_cons (pe_fld (L2.pv 0) rfl) (pa_cons (pe_fld (L2.pv 0) rfl) (pa_cons (pe_fld (L2.pv 0) rfl) pa_nil))))))) pss_nil)
        (pss_cons (ps_if (pt_cmpR op_eq (L2.pv 1) pe_str (nomark _)) (pss_one (ps_ret (pe_lst (pa_cons (pe_fld (L2.pv 0) rfl) (pa_cons (pe_fld (L2.pv 0) rfl) (pa_cons (pe_fld (L2.pv 0) rfl) pa_nil)))))) pss_nil)
        (pss_cons (ps_if (pt_cmpR op_in_seq (L2.pv 1) (pe_tup (pa_cons pe_str (pa_cons pe_str pa_nil))) (by rfl)) (pss_one (ps_ret (pe_ifExp (pt_cmpR op_eq (L2.pv 1) pe_str (nomark _)) (pe_lst (pa_cons (pe_fld (L2.pv 0) rfl) (pa_cons (pe_fld (L2.pv 0) rfl) (pa_cons (pe_fld (L2.pv 0) rfl) pa_nil)))) (pe_lst (pa_cons (pe_fld (L2.pv 0) rfl) (pa_cons (pe_fld (L2.pv 0) rfl) (pa_cons (pe_fld (L2.pv 0) rfl) pa_nil))))))) pss_nil)
        (pss_cons (ps_if (pt_cmpR op_in_seq (L2.pv 1) (pe_tup (pa_cons pe_str (pa_cons pe_str pa_nil))) (by rfl)) (pss_one (ps_ret (pe_ifExp (pt_cmpR op_eq (L2.pv 1) pe_str (nomark _)) (pe_lst (pa_cons (pe_fld (L2.pv 0) rfl) (pa_cons (pe_fld (L2.pv 0) rfl) pa_nil))) (pe_lst (pa_cons (pe_fld (L2.pv 0) rfl) (pa_cons (pe_fld (L2.pv 0) rfl) pa_nil)))))) pss_nil)
        (pss_one (ps_ret (pe_lst (pa_cons (pe_ifExp (pt_cmpR op_eq (L2.pv 1) pe_str (nomark _)) (pe_fld (L2.pv 0) rfl) (pe_ifExp (pt_cmpR op_eq (L2.pv 1) pe_str (nomark _)) (pe_fld (L2.pv 0) rfl) (pe_ifExp (pt_cmpR op_eq (L2.pv 1) pe_str (nomark _)) (pe_fld (L2.pv 0) rfl) (pe_fld (L2.pv 0) rfl)))) pa_nil))))))))), ?_⟩
    have g : Same H H := fun _ _ z => z
    match i, hi, cl, na, hl, e, k with
    | 0, _, cl, na, hl, e, k =>
      match ws, hl, e, k with
      | [u0, u1, u2, u3, u4], _, e, k =>
        refine ⟨_, rfl, rfl, _, rfl, ?_⟩
        refine ifT (by decide +kernel) ?_
        refine ⟨_, rfl, x, CC 0, dx, _, u0, rfl, g _ _ e, cl, na "value" (by simp [flOf]), by kernel_rfl, ?_⟩
        refine ⟨_, rfl, x, CC 0, dx, _, u1, rfl, g _ _ e, cl, na "bottom" (by simp [flOf]), by kernel_rfl, ?_⟩
        refine ⟨_, rfl, x, CC 0, dx, _, u2, rfl, g _ _ e, cl, na "shares" (by simp [flOf]), by kernel_rfl, ?_⟩
        refine ⟨_, rfl, x, CC 0, dx, _, u3, rfl, g _ _ e, cl, na "scale" (by simp [flOf]), by kernel_rfl, ?_⟩
        refine ⟨_, rfl, x, CC 0, dx, _, u4, rfl, g _ _ e, cl, na "numbers" (by simp [flOf]), by kernel_rfl, ?_⟩
        refine ⟨by show 5 ≤ sizeLine; decide, fun p hp => ?_⟩
        exact k p _ (g.trans (same_upd hp)) (g.free hp) upd_same
    | 1, _, cl, na, hl, e, k =>
      match ws, hl, e, k with
      | [u0, u1, u2, u3], _, e, k =>
        refine ⟨_, rfl, rfl, _, rfl, ?_⟩
        refine ifF (by decide +kernel) ?_
        refine ⟨_, rfl, rfl, _, rfl, ?_⟩
        refine ifT (by decide +kernel) ?_
        refine ⟨_, rfl, x, CC 1, dx, _, u0, rfl, g _ _ e, cl, na "statement" (by simp [flOf]), by kernel_rfl, ?_⟩
        refine ⟨_, rfl, x, CC 1, dx, _, u1, rfl, g _ _ e, cl, na "branch" (by simp [flOf]), by kernel_rfl, ?_⟩
        refine ⟨_, rfl, x, CC 1, dx, _, u2, rfl, g _ _ e, cl, na "scale" (by simp [flOf]), by kernel_rfl, ?_⟩
        refine ⟨_, rfl, x, CC 1, dx, _, u3, rfl, g _ _ e, cl, na "numbers" (by simp [flOf]), by kernel_rfl, ?_⟩
        refine ⟨by show 4 ≤ sizeLine; decide, fun p hp => ?_⟩
        exact k p _ (g.trans (same_upd hp)) (g.free hp) upd_same
    | 2, _, cl, na, hl, e, k =>
      match ws, hl, e, k with
      | [u0, u1, u2], _, e, k =>
        refine ⟨_, rfl, rfl, _, rfl, ?_⟩
        refine ifF (by decide +kernel) ?_
        refine ⟨_, rfl, rfl, _, rfl, ?_⟩
        refine ifF (by decide +kernel) ?_
        refine ⟨_, rfl, rfl, _, rfl, ?_⟩
        refine ifT (by decide +kernel) ?_
        refine ⟨_, rfl, x, CC 2, dx, _, u0, rfl, g _ _ e, cl, na "statement" (by simp [flOf]), by kernel_rfl, ?_⟩
        refine ⟨_, rfl, x, CC 2, dx, _, u1, rfl, g _ _ e, cl, na "branch" (by simp [flOf]), by kernel_rfl, ?_⟩
        refine ⟨_, rfl, x, CC 2, dx, _, u2, rfl, g _ _ e, cl, na "lot" (by simp [flOf]), by kernel_rfl, ?_⟩
        refine ⟨by show 3 ≤ sizeLine; decide, fun p hp => ?_⟩
        exact k p _ (g.trans (same_upd hp)) (g.free hp) upd_same
    | 3, _, cl, na, hl, e, k =>
      match ws, hl, e, k with
      | [u0, u1, u2], _, e, k =>
        refine ⟨_, rfl, rfl, _, rfl, ?_⟩
        refine ifF (by decide +kernel) ?_
        refine ⟨_, rfl, rfl, _, rfl, ?_⟩
        refine ifF (by decide +kernel) ?_
        refine ⟨_, rfl, rfl, _, rfl, ?_⟩
        refine ifF (by decide +kernel) ?_
        refine ⟨_, rfl, by show 2 ≤ sizeLine; decide, fun p1 hp1 => ?_⟩
        refine ⟨p1, _, rfl, .inr (SqT.of upd_same), rfl, rfl, _, rfl, ?_⟩
        have g := g.trans (same_upd (H := H) (p := p1) (o := .tup [.str "best", .str "wall"]) hp1)
        refine ifT (by decide +kernel) ?_
        refine ⟨_, rfl, rfl, _, rfl, ?_⟩
        refine ifT (by decide +kernel) ?_
        refine ⟨_, rfl, x, CC 3, dx, _, u0, rfl, g _ _ e, cl, na "value" (by simp [flOf]), by kernel_rfl, ?_⟩
        refine ⟨_, rfl, x, CC 3, dx, _, u1, rfl, g _ _ e, cl, na "plan" (by simp [flOf]), by kernel_rfl, ?_⟩
        refine ⟨_, rfl, x, CC 3, dx, _, u2, rfl, g _ _ e, cl, na "wall" (by simp [flOf]), by kernel_rfl, ?_⟩
        refine ⟨by show 3 ≤ sizeLine; decide, fun p hp => ?_⟩
        exact k p _ (g.trans (same_upd hp)) (g.free hp) upd_same
    | 4, _, cl, na, hl, e, k =>
      match ws, hl, e, k with
      | [u0, u1, u2], _, e, k =>
        refine ⟨_, rfl, rfl, _, rfl, ?_⟩
        refine ifF (by decide +kernel) ?_
        refine ⟨_, rfl, rfl, _, rfl, ?_⟩
        refine ifF (by decide +kernel) ?_
        refine ⟨_, rfl, rfl, _, rfl, ?_⟩
        refine ifF (by decide +kernel) ?_
        refine ⟨_, rfl, by show 2 ≤ sizeLine; decide, fun p1 hp1 => ?_⟩
        refine ⟨p1, _, rfl, .inr (SqT.of upd_same), rfl, rfl, _, rfl, ?_⟩
        have g := g.trans (same_upd (H := H) (p := p1) (o := .tup [.str "best", .str "wall"]) hp1)
        refine ifT (by decide +kernel) ?_
        refine ⟨_, rfl, rfl, _, rfl, ?_⟩
        refine ifF (by decide +kernel) ?_
        refine ⟨_, rfl, x, CC 4, dx, _, u0, rfl, g _ _ e, cl, na "value" (by simp [flOf]), by kernel_rfl, ?_⟩
        refine ⟨_, rfl, x, CC 4, dx, _, u1, rfl, g _ _ e, cl, na "fence" (by simp [flOf]), by kernel_rfl, ?_⟩
        refine ⟨_, rfl, x, CC 4, dx, _, u2, rfl, g _ _ e, cl, na "stretches" (by simp [flOf]), by kernel_rfl, ?_⟩
        refine ⟨by show 3 ≤ sizeLine; decide, fun p hp => ?_⟩
        exact k p _ (g.trans (same_upd hp)) (g.free hp) upd_same
    | 5, _, cl, na, hl, e, k =>
      match ws, hl, e, k with
      | [u0, u1], _, e, k =>
        refine ⟨_, rfl, rfl, _, rfl, ?_⟩
        refine ifF (by decide +kernel) ?_
        refine ⟨_, rfl, rfl, _, rfl, ?_⟩
        refine ifF (by decide +kernel) ?_
        refine ⟨_, rfl, rfl, _, rfl, ?_⟩
        refine ifF (by decide +kernel) ?_
        refine ⟨_, rfl, by show 2 ≤ sizeLine; decide, fun p1 hp1 => ?_⟩
        refine ⟨p1, _, rfl, .inr (SqT.of upd_same), rfl, rfl, _, rfl, ?_⟩
        have g := g.trans (same_upd (H := H) (p := p1) (o := .tup [.str "best", .str "wall"]) hp1)
        refine ifF (by decide +kernel) ?_
        refine ⟨_, rfl, by show 2 ≤ sizeLine; decide, fun p2 hp2 => ?_⟩
        refine ⟨p2, _, rfl, .inr (SqT.of upd_same), rfl, rfl, _, rfl, ?_⟩
        have g := g.trans (same_upd (H := (upd H p1 (.tup [.str "best", .str "wall"]))) (p := p2) (o := .tup [.str "plan", .str "bare"]) hp2)
        refine ifT (by decide +kernel) ?_
        refine ⟨_, rfl, rfl, _, rfl, ?_⟩
        refine ifT (by decide +kernel) ?_
        refine ⟨_, rfl, x, CC 5, dx, _, u0, rfl, g _ _ e, cl, na "threshold" (by simp [flOf]), by kernel_rfl, ?_⟩
        refine ⟨_, rfl, x, CC 5, dx, _, u1, rfl, g _ _ e, cl, na "rows" (by simp [flOf]), by kernel_rfl, ?_⟩
        refine ⟨by show 2 ≤ sizeLine; decide, fun p hp => ?_⟩
        exact k p _ (g.trans (same_upd hp)) (g.free hp) upd_same
    | 6, _, cl, na, hl, e, k =>
      match ws, hl, e, k with
      | [u0, u1], _, e, k =>
        refine ⟨_, rfl, rfl, _, rfl, ?_⟩
        refine ifF (by decide +kernel) ?_
        refine ⟨_, rfl, rfl, _, rfl, ?_⟩
        refine ifF (by decide +kernel) ?_
        refine ⟨_, rfl, rfl, _, rfl, ?_⟩
        refine ifF (by decide +kernel) ?_
        refine ⟨_, rfl, by show 2 ≤ sizeLine; decide, fun p1 hp1 => ?_⟩
        refine ⟨p1, _, rfl, .inr (SqT.of upd_same), rfl, rfl, _, rfl, ?_⟩
        have g := g.trans (same_upd (H := H) (p := p1) (o := .tup [.str "best", .str "wall"]) hp1)
        refine ifF (by decide +kernel) ?_
        refine ⟨_, rfl, by show 2 ≤ sizeLine; decide, fun p2 hp2 => ?_⟩
        refine ⟨p2, _, rfl, .inr (SqT.of upd_same), rfl, rfl, _, rfl, ?_⟩
        have g := g.trans (same_upd (H := (upd H p1 (.tup [.str "best", .str "wall"]))) (p := p2) (o := .tup [.str "plan", .str "bare"]) hp2)
        refine ifT (by decide +kernel) ?_
        refine ⟨_, rfl, rfl, _, rfl, ?_⟩
        refine ifF (by decide +kernel) ?_
        refine ⟨_, rfl, x, CC 6, dx, _, u0, rfl, g _ _ e, cl, na "lots" (by simp [flOf]), by kernel_rfl, ?_⟩
        refine ⟨_, rfl, x, CC 6, dx, _, u1, rfl, g _ _ e, cl, na "bars" (by simp [flOf]), by kernel_rfl, ?_⟩
        refine ⟨by show 2 ≤ sizeLine; decide, fun p hp => ?_⟩
        exact k p _ (g.trans (same_upd hp)) (g.free hp) upd_same
    | 7, _, cl, na, hl, e, k =>
      match ws, hl, e, k with
      | [u0], _, e, k =>
        refine ⟨_, rfl, rfl, _, rfl, ?_⟩
        refine ifF (by decide +kernel) ?_
        refine ⟨_, rfl, rfl, _, rfl, ?_⟩
        refine ifF (by decide +kernel) ?_
        refine ⟨_, rfl, rfl, _, rfl, ?_⟩
        refine ifF (by decide +kernel) ?_
        refine ⟨_, rfl, by show 2 ≤ sizeLine; decide, fun p1 hp1 => ?_⟩
        refine ⟨p1, _, rfl, .inr (SqT.of upd_same), rfl, rfl, _, rfl, ?_⟩
        have g := g.trans (same_upd (H := H) (p := p1) (o := .tup [.str "best", .str "wall"]) hp1)
        refine ifF (by decide +kernel) ?_
        refine ⟨_, rfl, by show 2 ≤ sizeLine; decide, fun p2 hp2 => ?_⟩
        refine ⟨p2, _, rfl, .inr (SqT.of upd_same), rfl, rfl, _, rfl, ?_⟩
        have g := g.trans (same_upd (H := (upd H p1 (.tup [.str "best", .str "wall"]))) (p := p2) (o := .tup [.str "plan", .str "bare"]) hp2)
        refine ifF (by decide +kernel) ?_
        refine ⟨_, rfl, rfl, _, rfl, ?_⟩
        refine ifT (by decide +kernel) ?_
        refine ⟨_, rfl, x, CC 7, dx, _, u0, rfl, g _ _ e, cl, na "rows" (by simp [flOf]), by kernel_rfl, ?_⟩
        refine ⟨by show 1 ≤ sizeLine; decide, fun p hp => ?_⟩
        exact k p _ (g.trans (same_upd hp)) (g.free hp) upd_same
    | 8, _, cl, na, hl, e, k =>
      match ws, hl, e, k with
      | [u0], _, e, k =>
        refine ⟨_, rfl, rfl, _, rfl, ?_⟩
        refine ifF (by decide +kernel) ?_
        refine ⟨_, rfl, rfl, _, rfl, ?_⟩
        refine ifF (by decide +kernel) ?_
        refine ⟨_, rfl, rfl, _, rfl, ?_⟩
        refine ifF (by decide +kernel) ?_
        refine ⟨_, rfl, by show 2 ≤ sizeLine; decide, fun p1 hp1 => ?_⟩
        refine ⟨p1, _, rfl, .inr (SqT.of upd_same), rfl, rfl, _, rfl, ?_⟩
        have g := g.trans (same_upd (H := H) (p := p1) (o := .tup [.str "best", .str "wall"]) hp1)
        refine ifF (by decide +kernel) ?_
        refine ⟨_, rfl, by show 2 ≤ sizeLine; decide, fun p2 hp2 => ?_⟩
        refine ⟨p2, _, rfl, .inr (SqT.of upd_same), rfl, rfl, _, rfl, ?_⟩
        have g := g.trans (same_upd (H := (upd H p1 (.tup [.str "best", .str "wall"]))) (p := p2) (o := .tup [.str "plan", .str "bare"]) hp2)
        refine ifF (by decide +kernel) ?_
        refine ⟨_, rfl, rfl, _, rfl, ?_⟩
        refine ifF (by decide +kernel) ?_
        refine ⟨_, rfl, rfl, _, rfl, ?_⟩
        refine ifT (by decide +kernel) ?_
        refine ⟨_, rfl, x, CC 8, dx, _, u0, rfl, g _ _ e, cl, na "fits" (by simp [flOf]), by kernel_rfl, ?_⟩
        refine ⟨by show 1 ≤ sizeLine; decide, fun p hp => ?_⟩
        exact k p _ (g.trans (same_upd hp)) (g.free hp) upd_same
    | 9, _, cl, na, hl, e, k =>
      match ws, hl, e, k with
      | [u0], _, e, k =>
        refine ⟨_, rfl, rfl, _, rfl, ?_⟩
        refine ifF (by decide +kernel) ?_
        refine ⟨_, rfl, rfl, _, rfl, ?_⟩
        refine ifF (by decide +kernel) ?_
        refine ⟨_, rfl, rfl, _, rfl, ?_⟩
        refine ifF (by decide +kernel) ?_
        refine ⟨_, rfl, by show 2 ≤ sizeLine; decide, fun p1 hp1 => ?_⟩
        refine ⟨p1, _, rfl, .inr (SqT.of upd_same), rfl, rfl, _, rfl, ?_⟩
        have g := g.trans (same_upd (H := H) (p := p1) (o := .tup [.str "best", .str "wall"]) hp1)
        refine ifF (by decide +kernel) ?_
        refine ⟨_, rfl, by show 2 ≤ sizeLine; decide, fun p2 hp2 => ?_⟩
        refine ⟨p2, _, rfl, .inr (SqT.of upd_same), rfl, rfl, _, rfl, ?_⟩
        have g := g.trans (same_upd (H := (upd H p1 (.tup [.str "best", .str "wall"]))) (p := p2) (o := .tup [.str "plan", .str "bare"]) hp2)
        refine ifF (by decide +kernel) ?_
        refine ⟨_, rfl, rfl, _, rfl, ?_⟩
        refine ifF (by decide +kernel) ?_
        refine ⟨_, rfl, rfl, _, rfl, ?_⟩
        refine ifF (by decide +kernel) ?_
        refine ⟨_, rfl, rfl, _, rfl, ?_⟩
        refine ifT (by decide +kernel) ?_
        refine ⟨_, rfl, x, CC 9, dx, _, u0, rfl, g _ _ e, cl, na "name" (by simp [flOf]), by kernel_rfl, ?_⟩
        refine ⟨by show 1 ≤ sizeLine; decide, fun p hp => ?_⟩
        exact k p _ (g.trans (same_upd hp)) (g.free hp) upd_same
    | 10, _, cl, na, hl, e, k =>
      match ws, hl, e, k with
      | [u0], _, e, k =>
        refine ⟨_, rfl, rfl, _, rfl, ?_⟩
        refine ifF (by decide +kernel) ?_
        refine ⟨_, rfl, rfl, _, rfl, ?_⟩
        refine ifF (by decide +kernel) ?_
        refine ⟨_, rfl, rfl, _, rfl, ?_⟩
        refine ifF (by decide +kernel) ?_
        refine ⟨_, rfl, by show 2 ≤ sizeLine; decide, fun p1 hp1 => ?_⟩
        refine ⟨p1, _, rfl, .inr (SqT.of upd_same), rfl, rfl, _, rfl, ?_⟩
        have g := g.trans (same_upd (H := H) (p := p1) (o := .tup [.str "best", .str "wall"]) hp1)
        refine ifF (by decide +kernel) ?_
        refine ⟨_, rfl, by show 2 ≤ sizeLine; decide, fun p2 hp2 => ?_⟩
        refine ⟨p2, _, rfl, .inr (SqT.of upd_same), rfl, rfl, _, rfl, ?_⟩
        have g := g.trans (same_upd (H := (upd H p1 (.tup [.str "best", .str "wall"]))) (p := p2) (o := .tup [.str "plan", .str "bare"]) hp2)
        refine ifF (by decide +kernel) ?_
        refine ⟨_, rfl, rfl, _, rfl, ?_⟩
        refine ifF (by decide +kernel) ?_
        refine ⟨_, rfl, rfl, _, rfl, ?_⟩
        refine ifF (by decide +kernel) ?_
        refine ⟨_, rfl, rfl, _, rfl, ?_⟩
        refine ifF (by decide +kernel) ?_
        refine ⟨_, rfl, x, CC 10, dx, _, u0, rfl, g _ _ e, cl, na "lot" (by simp [flOf]), by kernel_rfl, ?_⟩
        refine ⟨by show 1 ≤ sizeLine; decide, fun p hp => ?_⟩
        exact k p _ (g.trans (same_upd hp)) (g.free hp) upd_same
    | n + 11, h, _, _, _, _, _ => exact absurd h (by omega)
end
end K8
set_option Elab.async false
set_option linter.all false
set_option maxRecDepth 100000
set_option maxHeartbeats 4000000
namespace K8
open PySem PySem.Spec PyProof.Rows L2 NdefX
/-- the names of the errors' classes, their fields -/
def enOf : Nat → Str
  | 0 => "BadTable" | 1 => "BadWorld" | 2 => "BadAsk" | 3 => "BadSheet" | 4 => "BadSplit" | 5 => "BadProgram" | 6 => "BadBranch" | 7 => "BadCode" | 8 => "BadPaper" | 9 => "BadOrder" | 10 => "BadLot" | 11 => "BadNumber" | 12 => "BadQuestion" | 13 => "Misfit" | 14 => "Nothing" | 15 => "BadText" | 16 => "BadLine" | _ => "TooMany"
def efOf : Nat → List Str
  | 10 => ["value"] | 11 => ["value"] | 14 => ["what"] | 15 => ["line", "word"] | 16 => ["word"] | 17 => ["what", "most"] | _ => ["part"]
/-- what is known of an error class -/
structure Err (P : Program) (w : World) (K : PySem.W.Frag) (mg : Str → Option Value) (base : Heap) (Ce : Addr) (i : Nat) (C : Addr) : Prop where
  c : ErrC K C
  x : XiC K C
  na : ∀ y ∈ efOf i, PySem.W.findIn K (.ref C) y = some none
  glob : mg (enOf i) = some (.ref C)
  making : ∃ fI fd ps, PySem.W.findIn K (.ref C) "__init__" = some (some (.ref fI)) ∧ PySem.W.typeIn K (.ref fI) = some (.type "function") ∧ FnOk P w K mg base CX0 1 fI fd ps (spErr C (efOf i)) ∧ ps = ("self" : Str) :: efOf i ∧ Binds K fd ps [] ∧
    (∀ y, efOf i = [y] → KBinds K fd ps [y] (fun us ws => if us.length = 1 ∧ ws.length = 1 then us ++ ws else []) (fun us ws => if us.length = 1 ∧ ws.length = 1 then us ++ ws else []))
  isC : PySem.W.kitOne K (.ref C) (.ref Ce) = some true
  isV : PySem.W.kitOne K (.ref C) (.type "ValueError") = some true
/-- what is known at the law's own call -/
structure L88 (P : Program) (w : World) (K : PySem.W.Frag) (mg : Str → Option Value) (base : Heap) (Pa Dn Ce : Addr) (CC EE : Nat → Addr) : Prop where
  T : Blt mg
  pen : ∃ f fd, Kn P w K mg base 1 "_law_pen" ["script"] (spPen K) f fd
  draw : ∃ f fd, Kn P w K mg base 1 "_law_draw" ["pen", "many"] spDraw f fd
  pick : ∃ f fd, Kn P w K mg base 2 "_law_pick" ["pen", "some"] spPick f fd
  val : ∀ d, ∃ f fd, Kn P w K mg base (d + 3) "_law_value" ["pen", "deep"] (spVal K d) f fd
  fix : ∀ n, ∃ f fd, Kn P w K mg base (n + 1) "_law_fixed" ["value"] (spFix K n) f fd
  made : ∃ f fd, Kn P w K mg base 9 "_law_made" ["name", "parts"] (spMade K CC) f fd
  told : ∃ f fd, Kn P w K mg base 1 "_law_told" ["paper", "name"] (spTold K CC) f fd
  pap : ∀ i, i < 11 → Pap P w K mg base Pa i (CC i)
  eqs : ∃ g, PySem.W.isFn K (.ref g) = true ∧ FnR P w K mg base CX0 6 g (spPEq K Pa) ∧ ∀ i, i < 11 → PySem.W.findIn K (.ref (CC i)) "__eq__" = some (some (.ref g))
  nes : ∀ i, i < 11 → PySem.W.findIn K (.ref (CC i)) "__ne__" = some (some (.builtin "object.__ne__"))
  boo : ∃ g, PySem.W.isFn K (.ref g) = true ∧ FnR P w K mg base CX0 1 g (spPBool K Pa) ∧ ∀ i, i < 11 → PySem.W.findIn K (.ref (CC i)) "__bool__" = some (some (.ref g))
  nfP : ∀ i j, i < 11 → j < 11 → PySem.W.notFirst K (CC i) (.ref (CC j)) = true
  nfL : ∀ i, i < 11 → PySem.W.notFirst K (CC i) (.type "list") = true
  nfI : ∀ i, i < 11 → PySem.W.notFirst K (CC i) (.type "int") = true
  isD : ∀ i, i < 11 → PySem.W.kitOne K (.ref (CC i)) (.ref Dn) = some (!trOf i)
  lP : PySem.W.kitOne K (.type "list") (.ref Pa) = some false
  iP : PySem.W.kitOne K (.type "int") (.ref Pa) = some false
  mgP : mg "Paper" = some (.ref Pa)
  mgD : mg "Denial" = some (.ref Dn)
  mgC : mg "CrowdError" = some (.ref Ce)
  err : ∀ i, i < 18 → Err P w K mg base Ce i (EE i)
section
variable {X : Cx} {Pa : Addr} {CC : Nat → Addr}
/-- == of a paper -/
def rEqP (K : PySem.W.Frag) (Pa : Addr) (CC : Nat → Addr) : R2 := fun x y H Q => ∃ i, i < 11 ∧ rEqO K (CC i) (spPEq K Pa) E0 x y H Q
def rNeP (K : PySem.W.Frag) (Pa : Addr) (CC : Nat → Addr) : R2 := fun x y H Q => ∃ i, i < 11 ∧ rNeO K (CC i) (spPEq K Pa) E0 x y H Q
theorem op_eqP {g : Addr} (hf : PySem.W.isFn X.K (.ref g) = true) (F : FnR X.prog X.w X.K X.mg X.base CX0 6 g (spPEq X.K Pa)) (h : ∀ i, i < 11 → PySem.W.findIn X.K (.ref (CC i)) "__eq__" = some (some (.ref g))) (hr : Room 6 X.A) : OpR X (compareOp .Eq) (rEqP X.K Pa CC) := by
  intro pins s σ H x y v u Q I rx ry ⟨i, hi, q⟩
  exact op_eqO (h i hi) hf F hr pass0 pins s σ H x y v u Q I rx ry q
theorem op_neP {g : Addr} (hf : PySem.W.isFn X.K (.ref g) = true) (F : FnR X.prog X.w X.K X.mg X.base CX0 6 g (spPEq X.K Pa)) (h : ∀ i, i < 11 → PySem.W.findIn X.K (.ref (CC i)) "__eq__" = some (some (.ref g)))
    (hn : ∀ i, i < 11 → PySem.W.findIn X.K (.ref (CC i)) "__ne__" = some (some (.builtin "object.__ne__"))) (hm : ∀ i, i < 11 → PySem.W.mroIn X.K (CC i) (.type "object") = some true) (hr : Room 7 X.A) : OpR X (compareOp .NotEq) (rNeP X.K Pa CC) := by
  intro pins s σ H x y v u Q I rx ry ⟨i, hi, q⟩
  exact op_neO (h i hi) (hn i hi) (hm i hi) hf F hr (fun _ _ _ _ z => z.elim) pins s σ H x y v u Q I rx ry q
/-- bool of a paper -/
def rBooP (K : PySem.W.Frag) (Pa : Addr) (CC : Nat → Addr) : List V → Hp → VK → Prop := fun xs H Q => ∃ i, i < 11 ∧ ∃ (a dx : Addr) (fs : List (Str × V)), xs = [.ref a] ∧ H a = some (.ins (CC i) dx fs) ∧ spPBool K Pa [.ref a] H (fun z H' => ∃ b, z = .bl b ∧ Q (.bl b) H') E0
theorem call_booP {g : Addr} (hf : PySem.W.isFn X.K (.ref g) = true) (F : FnR X.prog X.w X.K X.mg X.base CX0 1 g (spPBool X.K Pa)) (h : ∀ i, i < 11 → PySem.W.findIn X.K (.ref (CC i)) "__bool__" = some (some (.ref g))) (hr : Room 4 X.A) : CallR X (.type "bool") (rBooP X.K Pa CC) := by
  intro pins s σ H xs us Q I r ⟨i, hi, q⟩
  exact call_boolO (h i hi) hf F hr (fun _ _ _ _ z => z.elim) pins s σ H xs us Q I r q
end
abbrev sLaw : Stmt := top 48
end K8
set_option Elab.async false
set_option linter.all false
set_option maxRecDepth 100000
set_option maxHeartbeats 4000000
namespace K8
open PySem PySem.Spec PyProof.Rows L2 NdefX

theorem flds_off {g : Str} : ∀ {ns : List Str} {vs : List V} {fs : List (Str × V)}, g ∉ ns → (fldsOf ns vs fs).lookup g = fs.lookup g
  | [], _, _, _ => by simp [fldsOf]
  | n :: ns, [], _, _ => by simp [fldsOf]
  | n :: ns, v :: vs, fs, h => by
    rw [fldsOf, flds_off (fun z => h (List.mem_cons_of_mem _ z)), lookup_putF, if_neg (fun z => h (by rw [z]; exact List.mem_cons_self ..))]
theorem no_own : ∀ j, j < 11 → ("own_parts" : Str) ∉ flOf j ∧ ("WORD" : Str) ∉ flOf j ∧ ("IS_TRUE" : Str) ∉ flOf j := by decide +kernel
theorem nm_inj : ∀ i, i < 11 → ∀ j, j < 11 → nmOf i = nmOf j → i = j := by decide +kernel
def namesV : List V := [.str "exactly", .str "slow", .str "loose", .str "best", .str "wall", .str "plan", .str "bare", .str "keeps", .str "right", .str "barred", .str "unbounded"]
def densV : List V := [.str "slow", .str "loose", .str "wall", .str "bare", .str "unbounded"]
theorem names_at : ∀ j, j < 11 → namesV[j]? = some (.str (nmOf j)) := by decide +kernel
theorem dens_in : ∀ j, j < 11 → inV (.str (nmOf j)) densV = !trOf j := by decide +kernel
theorem fl_len : ∀ j, j < 11 → 1 ≤ (flOf j).length ∧ (flOf j).length ≤ 5 := by decide +kernel
theorem names_pick {i : Nat} {v : V} (h : namesV[i]? = some v) : i < 11 ∧ v = .str (nmOf i) := by
  have hi : i < 11 := (List.getElem?_eq_some_iff.mp h).1
  exact ⟨hi, by rw [names_at i hi] at h; exact (Option.some.inj h).symm⟩
section
variable {P : Program} {w : World} {K : PySem.W.Frag} {mg : Str → Option Value} {base : Heap} {Pa Dn Ce : Addr} {CC EE : Nat → Addr} {H H' : Hp}
theorem IsP.same {a C : Addr} {wd : Str} {t : Bool} {ds : List PyData} (s : Same H H') (h : IsP K Pa H a C wd t ds) : IsP K Pa H' a C wd t ds := by
  obtain ⟨dx, fs, pv, xs, e, l1, l2, l3, q, d⟩ := h.at_
  exact ⟨h.pc, ⟨dx, fs, pv, xs, s _ _ e, l1, l2, l3, sqt_same s q, dpa_same s d⟩, h.pv⟩
theorem made_isP {x : Addr} {j : Nat} {es : List PyData} (hj : j < 11) (pc : PC K Pa (CC j) (nmOf j) (trOf j)) (m : MadeP K H H' x (CC j) (flOf j) es) (he : pval 4 (.tuple es) = true) : IsP K Pa (nw H H') x (CC j) (nmOf j) (trOf j) es := by
  obtain ⟨dx, pv, xs, e, q, d⟩ := m.at_
  obtain ⟨n1, n2, n3⟩ := no_own j hj
  exact ⟨pc, ⟨dx, _, pv, xs, by rw [nw_at m.new]; exact e, (flds_off n1).trans rfl, (flds_off n2).trans rfl, (flds_off n3).trans rfl, q, d⟩, he⟩
/-- the field reading of such a paper -/
theorem eqP_paper (L : L88 P w K mg base Pa Dn Ce CC EE) {x y : Addr} {i j : Nat} {ds es : List PyData} {Q : VK} (hj : j < 11) (hi : i < 11) (hx : IsP K Pa H x (CC j) (nmOf j) (trOf j) ds) (hy : IsP K Pa H y (CC i) (nmOf i) (trOf i) es)
    (q : ∀ H', Same H H' → Q (.bl (decide (nmOf j = nmOf i) && lik (.tuple ds) (.tuple es))) H') : rEqP K Pa CC (.ref x) (.ref y) H Q := by
  obtain ⟨dx, fs, pv, xs, e, _⟩ := hx.at_
  obtain ⟨dx', fs', pv', xs', e', _⟩ := hy.at_
  exact ⟨j, hj, x, dx, fs, .ref (CC i), rfl, e, hy.pc.ty e', L.nfP j i hj hi, x, CC j, nmOf j, trOf j, ds, .ref y, rfl, hx, .inr ⟨y, CC i, nmOf i, trOf i, es, rfl, hy, q⟩⟩
theorem eqP_other {x : Addr} {y : V} {j : Nat} {ds : List PyData} {ty : Value} {Q : VK} (hj : j < 11) (hx : IsP K Pa H x (CC j) (nmOf j) (trOf j) ds) (hy : TyX K H y ty) (nf : PySem.W.notFirst K (CC j) ty = true) (k : PySem.W.kitOne K ty (.ref Pa) = some false)
    (q : ∀ H', Same H H' → Q (.bl false) H') : rEqP K Pa CC (.ref x) y H Q := by
  obtain ⟨dx, fs, pv, xs, e, _⟩ := hx.at_
  exact ⟨j, hj, x, dx, fs, ty, rfl, e, hy, nf, x, CC j, nmOf j, trOf j, ds, y, rfl, hx, .inl ⟨ty, hy, k, q⟩⟩
theorem neP_paper (L : L88 P w K mg base Pa Dn Ce CC EE) {x y : Addr} {i j : Nat} {ds es : List PyData} {Q : VK} (hj : j < 11) (hi : i < 11) (hx : IsP K Pa H x (CC j) (nmOf j) (trOf j) ds) (hy : IsP K Pa H y (CC i) (nmOf i) (trOf i) es)
    (q : ∀ H', Same H H' → Q (.bl (!(decide (nmOf j = nmOf i) && lik (.tuple ds) (.tuple es)))) H') : rNeP K Pa CC (.ref x) (.ref y) H Q := by
  obtain ⟨dx, fs, pv, xs, e, _⟩ := hx.at_
  obtain ⟨dx', fs', pv', xs', e', _⟩ := hy.at_
  exact ⟨j, hj, x, dx, fs, .ref (CC i), rfl, e, hy.pc.ty e', L.nfP j i hj hi, x, CC j, nmOf j, trOf j, ds, .ref y, rfl, hx, .inr ⟨y, CC i, nmOf i, trOf i, es, rfl, hy, fun H2 s2 => ⟨_, rfl, q H2 s2⟩⟩⟩
theorem booP_paper {x : Addr} {j : Nat} {ds : List PyData} {Q : VK} (hj : j < 11) (hx : IsP K Pa H x (CC j) (nmOf j) (trOf j) ds) (q : Q (.bl (trOf j)) H) : rBooP K Pa CC [.ref x] H Q := by
  obtain ⟨dx, fs, pv, xs, e, l1, l2, l3, _⟩ := hx.at_
  exact ⟨j, hj, x, dx, fs, rfl, e, x, CC j, dx, fs, nmOf j, trOf j, rfl, hx.pc, e, l3, _, rfl, q⟩
theorem cut_take {xs : List V} {m : Nat} : cutV xs none (some (m : Int)) = xs.take m := by
  unfold cutV
  rw [HT.sIx_none, HT.sIx_nat, List.drop_zero, Nat.sub_zero]
  rcases Nat.le_total m xs.length with h | h
  · rw [Nat.min_eq_left h]
  · rw [Nat.min_eq_right h, List.take_of_length_le (Nat.le_refl _), List.take_of_length_le h]
theorem cut_drop {xs : List V} {m : Nat} : cutV xs (some (m : Int)) none = xs.drop m := by
  unfold cutV
  rw [HT.sIx_none, HT.sIx_nat]
  rcases Nat.le_total m xs.length with h | h
  · rw [Nat.min_eq_left h, List.take_of_length_le (by rw [List.length_drop]; exact Nat.le_refl _)]
  · rw [Nat.min_eq_right h, Nat.sub_self, List.take_zero, List.drop_of_length_le h]
theorem cut_drop1 {xs : List V} {m : Nat} : cutV xs (some ((m : Int) + 1)) none = xs.drop (m + 1) := cut_drop (m := m + 1)
theorem str_dec (a b : Str) : decide (V.str a = V.str b) = decide (a = b) := by
  rw [Bool.eq_iff_iff, decide_eq_true_eq, decide_eq_true_eq]
  exact ⟨fun z => by injection z, fun z => by rw [z]⟩
/-- the same word: the same class, so the same parts -/
theorem same_word {i j : Nat} {ds : List PyData} (hj : j < 11) (hi : i < 11) :
    (!decide (V.bl (decide (nmOf j = nmOf i) && lik (.tuple ((ds.take (flOf j).length).map fx)) (.tuple ((ds.take (flOf i).length).map fx))) = V.bl (decide (V.str (nmOf j) = V.str (nmOf i))))) = false := by
  rw [str_dec]
  by_cases h : nmOf j = nmOf i
  · obtain rfl := nm_inj j hj i hi h
    rw [lik_self]
    simp
  · rw [decide_eq_false h]
    simp
theorem like_told {d e : PyData} {b : Bool} (h : b = true) : (!decide (V.bl (b && lik d e) = V.bl (decide (V.str d.shown = V.str e.shown)))) = false := by
  rw [str_dec, h, Bool.true_and]
  unfold lik
  simp
/-! ### errors as values -/
/-- an error as it stands: its class, its fields -/
def ExcAt (H : Hp) (a C : Addr) (fs : List (Str × V)) : Prop := ∃ dx, H a = some (exo a C (some dx)) ∧ H dx = some (exd dx fs)
theorem ExcAt.same {a C : Addr} {fs : List (Str × V)} (s : Same H H') (h : ExcAt H a C fs) : ExcAt H' a C fs := let ⟨dx, e1, e2⟩ := h; ⟨dx, s _ _ e1, s _ _ e2⟩
def tNewE (C : Addr) (names : List Str) (ta : TA) : TE := fun σ H Q => ta σ H fun vs H1 => vs.length = names.length ∧ ∀ a H2, Same H1 H2 → H1 a = none → ExcAt H2 a C (names.zip vs).reverse → Q (.ref a) H2
theorem dpa_rep {v : V} {x : PyData} (h : Dp K H v x) : ∀ n : Nat, DpAll K H (List.replicate n v) (List.replicate n x)
  | 0 => .nil
  | n + 1 => .cons h (dpa_rep h n)
theorem err_len : ∀ i, i < 18 → (efOf i).length ≤ 2 := by decide +kernel
theorem spErr_new {C a : Addr} {names : List Str} {vs : List V} {Q : VK} (ha : H a = none) (hl : vs.length = names.length) (q : ∀ H2, Same H H2 → ExcAt H2 a C (names.zip vs).reverse → Q (.ref a) H2) :
    spErr C names (.ref a :: vs) (upd H a (exo a C none)) (fun v H2 => v = .non ∧ Q (.ref a) H2) (fun _ _ _ => False) := by
  refine ⟨a, vs, rfl, hl, upd_same, fun dx H2 hd hne off e1 e2 => ⟨rfl, q H2 (fun b o hb => ?_) ⟨dx, e1, e2⟩⟩⟩
  have hba : b ≠ a := ne_of_none hb ha
  have hd' : H dx = none := by rw [upd_ne hne] at hd; exact hd
  have hbd : b ≠ dx := ne_of_none hb hd'
  rw [off b hba hbd, upd_ne hba]
  exact hb
end
section
variable {X : Cx} {Ce C : Addr} {i : Nat}
theorem pe_newE {x : Str} {e : Expr} {es : List Expr} {ta : TA} {p pos : Pos} (hi : i < 18) (G : Err X.prog X.w X.K X.mg X.base Ce i C) (ex : x = enOf i) (hr : Room 2 X.A) (hg : Gl X x) (ha : PA X (e :: es) ta)
    (hdb : (x == ("__debug__" : Str)) = false := by decide) (he : starEach (e :: es) X.env = (false, eval e X.env) :: starEach es X.env := by rfl) (hpl : (backTo pos (starEach es X.env)).any (·.1) = false := by rfl) :
    PE X (.Call (.Name x p) (e :: es) [] pos) (tNewE C (efOf i) ta) := by
  subst ex
  obtain ⟨fI, fd, ps, i1, t1, F1, _, b1, _⟩ := G.making
  refine ⟨fun pins s σ H Q I h => wpAny_Call_Name_kw (ld_glob I hg G.glob (PySem.W.callWith_K (h₀ := X.base) I.ok.mod.kin G.c.oex.kC (thn (ha.run pos pins s σ H _ I h) fun us s1 ⟨vs, H1, I1, r1, hz, q1⟩ => ⟨I1.kIn, ?_⟩) he hpl) hdb)⟩
  have hl2 := err_len i hi
  exact run_mkv G.c.oex i1 t1 (F1.raw b1 .nil) hr pass0 I1 r1 (by omega) fun a ha => by
    show spErr C (efOf i) (.ref a :: vs ++ []) _ _ _
    rw [List.append_nil]
    exact spErr_new ha hz fun H2 s2 e2 => q1 a H2 s2 ha e2
theorem pe_newEK {x y : Str} {e : Expr} {te : TE} {kp p pos : Pos} (G : Err X.prog X.w X.K X.mg X.base Ce i C) (ex : x = enOf i) (ey : efOf i = [y]) (hr : Room 2 X.A) (hg : Gl X x) (he : PE X e te)
    (hall : (backToKw pos (keywordEach [⟨some y, e, kp⟩] X.env)).all (·.1.isSome) = true := by rfl) (hks : (backToKw pos (keywordEach [⟨some y, e, kp⟩] X.env)).filterMap (·.1) = [y] := by rfl) (hdb : (x == ("__debug__" : Str)) = false := by decide)
    (hpl : ((backTo pos (starEach [] X.env)).any (·.1) || (backToKw pos (keywordEach [⟨some y, e, kp⟩] X.env)).any (·.1.isNone)) = false := by rfl) :
    PE X (.Call (.Name x p) [] [⟨some y, e, kp⟩] pos) (tNewE C [y] (tCons te tNil)) := by
  subst ex
  obtain ⟨fI, fd, ps, i1, t1, F1, _, b1, k1⟩ := G.making
  refine ⟨fun pins s σ H Q I h => ?_⟩
  refine wpAny_Call_Name_kw (ld_glob I hg G.glob ?_ hdb)
  refine PySem.W.callWith_KW0 (h₀ := X.base) I.ok.mod.kin G.c.oex.kC hall ?_ hpl
  refine thn ((pk_cons he pk_nil).run pos pins s σ H _ I h) fun ws s1 ⟨zs, H1, I1, rz, hz, q1⟩ => ⟨I1.kIn, ?_⟩
  rw [hks]
  refine run_mkK (ks := [y]) G.c.oex i1 t1 F1 (k1 y ey) hr pass0 I1 rz fun a ha => ?_
  match zs, hz with
  | [z], _ =>
    rw [ey]
    exact spErr_new ha rfl fun H2 s2 e2 => q1 a H2 s2 ha e2
end
end K8
set_option Elab.async false
set_option linter.all false
set_option maxRecDepth 100000
set_option maxHeartbeats 4000000
namespace K8
open PySem PySem.Spec PyProof.Rows L2
/-! ### data whose text is shown -/
inductive RV : Nat → PyData → Prop where
  | leaf {n : Nat} {d : PyData} (s : d.showable = true) (p : d.depth ≤ 1) (l : (cs d.shown).length ≤ 65) : RV n d
  | list {n : Nat} {xs : List PyData} (l : xs.length ≤ 20) (h : ∀ x ∈ xs, RV n x) : RV (n + 1) (.list xs)
  | tuple {n : Nat} {xs : List PyData} (l : xs.length ≤ 20) (h : ∀ x ∈ xs, RV n x) : RV (n + 1) (.tuple xs)
def mostR : Nat → Nat
  | 0 => 65
  | n + 1 => 3 + 20 * (mostR n + 2)
theorem mostR_ge : ∀ n, 65 ≤ mostR n
  | 0 => Nat.le_refl _
  | n + 1 => by
    have := mostR_ge n
    simp only [mostR]
    omega
theorem list_text (B : Nat) (xs : List PyData) (h : ∀ x ∈ xs, (cs x.shown).length ≤ B) : (cs (PyData.list xs).shown).length ≤ 3 + xs.length * (B + 2) := by
  rw [PyData.shown_list, cs_app, cs_app, List.length_append, List.length_append, show (cs "[").length = 1 from by decide +kernel, show (cs "]").length = 1 from by decide +kernel, shownAll_map]
  cases xs with
  | nil => 
    have e : cs (Str.join ", " ([] : List Str)) = [] := rfl
    rw [List.map_nil, e]
    simp
  | cons x r =>
    have e := congrArg List.length (join_body x.shown (r.map PyData.shown))
    rw [List.length_append] at e
    have e2 := bodyR_len B ((x.shown :: r.map PyData.shown).map cs) (fun u hu => by
      obtain ⟨t, ht, rfl⟩ := List.mem_map.mp hu
      rcases List.mem_cons.mp ht with rfl | ht
      · exact h x (List.mem_cons_self ..)
      · obtain ⟨y, hy, rfl⟩ := List.mem_map.mp ht
        exact h y (List.mem_cons_of_mem _ hy))
    have e3 : ((x.shown :: r.map PyData.shown).map cs).length = (x :: r).length := by simp
    rw [e3] at e2
    have e4 : (cs (Str.join ", " ((x :: r).map PyData.shown))).length + 1 ≤ 2 + (x :: r).length * (B + 2) := by
      have e5 : (cs (Str.join ", " (x.shown :: r.map PyData.shown))).length + [41].length = (bodyR ((x.shown :: r.map PyData.shown).map cs)).length := e
      rw [List.map_cons]
      have : ([41] : List Nat).length = 1 := rfl
      omega
    omega
theorem rv_len : ∀ {n : Nat} {d : PyData}, RV n d → (cs d.shown).length ≤ mostR n := by
  intro n d h
  induction h with
  | leaf s p l => exact Nat.le_trans l (mostR_ge _)
  | @list n xs l h ih =>
    have e := list_text (mostR n) xs ih
    have : xs.length * (mostR n + 2) ≤ 20 * (mostR n + 2) := Nat.mul_le_mul_right _ l
    simp only [mostR]
    omega
  | @tuple n xs l h ih =>
    rw [cs_tuple, List.length_cons]
    have e := body_len (mostR n) (xs.map fun x => cs x.shown) (fun u hu => by
      obtain ⟨x, hx, rfl⟩ := List.mem_map.mp hu
      exact ih x hx)
    rw [List.length_map] at e
    have : xs.length * (mostR n + 2) ≤ 20 * (mostR n + 2) := Nat.mul_le_mul_right _ l
    simp only [mostR]
    omega
theorem rv_show : ∀ {n : Nat} {d : PyData}, RV n d → d.showable = true := by
  intro n d h
  induction h with
  | leaf s p l => exact s
  | list l h ih => rw [PyData.showable]; exact all_showable _ ih
  | tuple l h ih => rw [PyData.showable]; exact all_showable _ ih
theorem rv_depth : ∀ {n : Nat} {d : PyData}, RV n d → d.depth ≤ n + 1 := by
  intro n d h
  induction h with
  | leaf s p l => omega
  | @list n xs l h ih =>
    rw [PyData.depth]
    have := all_depth (n + 1) xs ih
    omega
  | @tuple n xs l h ih =>
    rw [PyData.depth]
    have := all_depth (n + 1) xs ih
    omega
theorem rv_fits {n : Nat} {d : PyData} (h : RV n d) (hn : n ≤ 4) : d.showable = true ∧ d.depth ≤ 60 ∧ d.shown.length ≤ sizeLine := by
  refine ⟨rv_show h, by have := rv_depth h; omega, ?_⟩
  rw [cs_len, sizeLine_eq]
  have h1 := rv_len h
  have mono : ∀ k, k ≤ 4 → mostR k ≤ 10762103 := by decide
  have := mono n hn
  omega
theorem rv_atom {n : Nat} {d : PyData} (h : atomOk d = true) : RV n d := .leaf (pv_showable 0 d h) (pv_depth 0 d h) (pv_len 0 d h)
theorem rv_pv : ∀ (n : Nat) (d : PyData), pval n d = true → RV n d
  | n, d, h => by
    rcases pv_cases h with a | ⟨m, xs, rfl, rfl, l, ax⟩
    · exact rv_atom a
    · exact .tuple (by omega) fun x hx => rv_pv m x (ax x hx)
theorem rv_lv {n : Nat} {d : PyData} (h : LV n d) : RV (n + 1) d := by
  induction h with
  | atom h => exact rv_atom h
  | pair => exact rv_pv _ _ pv_pair
  | list l h ih => exact .list (by omega) ih
theorem fx_twice {n k : Nat} {ds : List PyData} (h : ∀ d ∈ ds, LV n d) : ((ds.map fx).take k).map fx = (ds.take k).map fx := by
  rw [← List.map_take, List.map_map]
  exact List.map_congr_left fun d hd => fx_pv (n + 1) (fx d) (fx_lv (h d (List.mem_of_mem_take hd)))
theorem take_pv {n k : Nat} {ds : List PyData} (h : ∀ d ∈ ds, LV n d) (hl : ds.length ≤ 5) : pval (n + 2) (.tuple ((ds.take k).map fx)) = true := pv_tuple.mpr ⟨by rw [List.length_map, List.length_take]; omega, fun x hx => by
  obtain ⟨y, hy, rfl⟩ := List.mem_map.mp hx
  exact fx_lv (h y (List.mem_of_mem_take hy))⟩
theorem dp_tup {K : PySem.W.Frag} {H : Hp} {v : V} {ds : List PyData} (h : Dp K H v (.tuple ds)) : ∃ F xs, v = .ref F ∧ SqT K H F xs ∧ DpAll K H xs ds := by
  cases h with
  | tup q d => exact ⟨_, _, rfl, q, d⟩
end K8
set_option Elab.async false
set_option linter.all false
set_option maxRecDepth 100000
set_option maxHeartbeats 4000000
set_option pp.maxSteps 600
namespace K8
open PySem PySem.Spec PyProof.Rows L2 NdefX
/-- the law's names at the loop -/
def LoopS (a p nA dA : Addr) (σ : L2.St) : Prop := ∃ o4 o5 o6 o7 o8 o9 o10 o11 o12 o13 o14 o15 : Option V, σ = [some (.ref a), some (.ref p), some (.ref nA), some (.ref dA), o4, o5, o6, o7, o8, o9, o10, o11, o12, o13, o14, o15, none, none, none, none, none, none]
/-- the heap at the loop -/
structure LoopH (Hb : Hp) (p c : Addr) (cells : List Int) (nA dA : Addr) (bound : Int) (H : Hp) : Prop where
  keep : Keep p Hb H
  nam : H nA = some (.lst namesV)
  den : H dA = some (.lst densV)
  pen : ∃ n rest, PenAt H p c cells n rest ∧ 0 ≤ n ∧ n ≤ bound
/-- the law's names behind the loop -/
def AfterS (a p nA dA : Addr) (r16 r17 r18 r19 : Option V) (σ : L2.St) : Prop := ∃ o4 o5 o6 o7 o8 o9 o10 o11 o12 o13 o14 o15 : Option V, σ = [some (.ref a), some (.ref p), some (.ref nA), some (.ref dA), o4, o5, o6, o7, o8, o9, o10, o11, o12, o13, o14, o15, r16, r17, r18, r19, none, none]
/-- an error whose one field, part, is v -/
def IsBad (EE : Nat → Addr) (H : Hp) (v y : V) : Prop := ∃ (e : Addr) (i : Nat), i < 18 ∧ efOf i = [("part" : Str)] ∧ y = .ref e ∧ ExcAt H e (EE i) [("part", v)]
theorem IsBad.same {EE : Nat → Addr} {H H' : Hp} {v y : V} (s : Same H H') (h : IsBad EE H v y) : IsBad EE H' v y := let ⟨e, i, h1, h2, h3, h4⟩ := h; ⟨e, i, h1, h2, h3, h4.same s⟩
theorem rv_rows {n : Nat} : RV n (.str (Str.ofString "rows")) := .leaf (by simp [PyData.showable]) (by simp [PyData.depth]) (by decide +kernel)
def spLaw (K : PySem.W.Frag) : Sp := fun vs H Q _ => ∃ (a : Addr) (ns : List Int), vs = [.ref a] ∧ SqL K H a (ns.map V.int) ∧ ns.length ≤ 63 ∧ ∀ H', Q (.bl true) H'
section
variable {P : Program} {w : World} {K : PySem.W.Frag} {mg : Str → Option Value} {base : Heap} {Pa Dn Ce : Addr} {CC EE : Nat → Addr}
theorem scLaw : FnScope ["script", "pen", "names", "denials", "lap", "name", "other", "parts", "paper", "attributes", "twin", "its", "many", "at", "more", "is_like_v", "value", "caught", "both", "told_parts", "part", "one"] ["script"] (defScope sLaw) := ⟨rfl, rfl, rfl, by decide +kernel, rfl, by decide +kernel, by decide +kernel⟩
theorem law_body (L : L88 P w K mg base Pa Dn Ce CC EE) {f : Addr} {cdv : Value} {A : Around} {outer : List Env} {s : Shared} {H : Hp} {Q : VK} {E : XK} (hA : A.guards = some []) (hr : Room 30 (A.deeper (envOfC "law" (defScope sLaw) s.heap.objs.size f cdv)))
    {vs : List V} (h : spLaw K vs H Q E) : ∃ t, PSs (cxOf CX0 P w K mg base ["script", "pen", "names", "denials", "lap", "name", "other", "parts", "paper", "attributes", "twin", "its", "many", "at", "more", "is_like_v", "value", "caught", "both", "told_parts", "part", "one"] "law" (defScope sLaw) f cdv A outer s H E) (defBody sLaw) t ∧ t { nx := fun _ H' => Q .non H', rt := Q } (start ["script", "pen", "names", "denials", "lap", "name", "other", "parts", "paper", "attributes", "twin", "its", "many", "at", "more", "is_like_v", "value", "caught", "both", "told_parts", "part", "one"] vs) H := by
  obtain ⟨a, ns, rfl, ha, hl, k⟩ := h
  have T := L.T
  obtain ⟨fp, dp, KPen⟩ := L.pen
  obtain ⟨fw, dw, KDraw⟩ := L.draw
  obtain ⟨fk, dk, KPick⟩ := L.pick
  obtain ⟨fv2, dv2, KV2⟩ := L.val 2
  obtain ⟨fv1, dv1, KV1⟩ := L.val 1
  obtain ⟨fx4, dx4, KFix⟩ := L.fix 4
  obtain ⟨fm, dm, KMade⟩ := L.made
  obtain ⟨ft, dt, KTold⟩ := L.told
  obtain ⟨gE, isE, FE, hE⟩ := L.eqs
  obtain ⟨gB, isB, FB, hB⟩ := L.boo
  have hmo : ∀ i, i < 11 → PySem.W.mroIn K (CC i) (.type "object") = some true := fun i hi => (L.pap i hi).pc.mC
  refine ⟨_, PSs.nox (C8.pss_cut (ps_set (i := 1) scLaw.nd rfl (Or.inr rfl) (pe_call KPen.ok (hr.mono (by omega)) (by rfl) KPen.mg KPen.kp KPen.b .nil pass0 (pa_cons (pv 0) pa_nil)))
        (C8.pss_cut (ps_par (i := 2) (j := 3) (by rfl) scLaw.nd rfl rfl (by decide) rfl rfl (pa_cons (pe_lst (pa_cons pe_str (pa_cons pe_str (pa_cons pe_str (pa_cons pe_str (pa_cons pe_str (pa_cons pe_str (pa_cons pe_str (pa_cons pe_str (pa_cons pe_str (pa_cons pe_str (pa_cons pe_str pa_nil)))))))))))) (pa_cons (pe_lst (pa_cons pe_str (pa_cons pe_str (pa_cons pe_str (pa_cons pe_str (pa_cons pe_str pa_nil)))))) pa_nil)) (by rfl))
        (C8.pss_cut (ps_for PassesOwn.never rfl (pi_range1 (by rfl) T.range (pa_cons pe_int pa_nil)) (pg_name (i := 4) scLaw.nd rfl (Or.inl rfl)) (pss_cons (ps_par (i := 5) (j := 6) (by rfl) scLaw.nd rfl rfl (by decide) rfl rfl (pa_cons (pe_call KPick.ok (hr.mono (by omega)) (by rfl) KPick.mg KPick.kp KPick.b .nil pass0 (pa_cons (pv 1) (pa_cons (pv 2) pa_nil))) (pa_cons (pe_call KPick.ok (hr.mono (by omega)) (by rfl) KPick.mg KPick.kp KPick.b .nil pass0 (pa_cons (pv 1) (pa_cons (pv 2) pa_nil))) pa_nil)) (by rfl))
        (pss_cons (ps_setLc (i := 7) (own := [("part", 20)]) (g := gName 20) (tt := tYes) rfl scLaw.nd rfl rfl (by rfl) (pi_range1 (by rfl) T.range (pa_cons pe_int pa_nil)) (blkOk_by (N := ["script", "pen", "names", "denials", "lap", "name", "other", "parts", "paper", "attributes", "twin", "its", "many", "at", "more", "is_like_v", "value", "caught", "both", "told_parts", "part", "one"]) (sc := defScope sLaw) (by decide +kernel)) (fun _ _ _ _ _ => pg_name (i := 20) scLaw.nd rfl (Or.inl rfl)) (fun _ _ _ _ _ => pts_nil) (fun _ _ _ _ _ => (pe_call KV2.ok (hr.mono (by omega)) (by rfl) KV2.mg KV2.kp KV2.b .nil pass0 (pa_cons (pv 1) (pa_cons pe_int pa_nil)))))
        (pss_cons (ps_asg (pe_call KMade.ok (hr.mono (by omega)) (by rfl) KMade.mg KMade.kp KMade.b .nil pass0 (pa_cons (pv 5) (pa_cons (pv 7) pa_nil))) (pg_tup (by rfl) (pgs_cons (pg_name (i := 8) scLaw.nd rfl (Or.inl rfl)) (pgs_cons (pg_name (i := 9) scLaw.nd rfl (Or.inl rfl)) pgs_nil))))
        (pss_cons (ps_par (i := 10) (j := 11) (by rfl) scLaw.nd rfl rfl (by decide) rfl rfl (pa_cons (pe_ix ix_tup (pe_call KMade.ok (hr.mono (by omega)) (by rfl) KMade.mg KMade.kp KMade.b .nil pass0 (pa_cons (pv 5) (pa_cons (pe_call KFix.ok (hr.mono (by omega)) (by rfl) KFix.mg KFix.kp KFix.b .nil pass0 (pa_cons (pv 7) pa_nil)) pa_nil))) pe_int (fun _ _ => rfl)) (pa_cons (pe_ix ix_tup (pe_call KMade.ok (hr.mono (by omega)) (by rfl) KMade.mg KMade.kp KMade.b .nil pass0 (pa_cons (pv 6) (pa_cons (pv 7) pa_nil))) pe_int (fun _ _ => rfl)) pa_nil)) (by rfl))
        (pss_cons (ps_set (i := 12) scLaw.nd rfl (Or.inl rfl) (pe_callB call_len_seq (by rfl) T.len boot_len (pa_cons (pv 9) pa_nil)))
        (pss_cons (ps_if (PW.pt (pw_or (pt_cmpR op_ne (pe_callB (call_reprD hA hr.units) (by rfl) T.repr (by decide +kernel) (pa_cons (pe_call KTold.ok (hr.mono (by omega)) (by rfl) KTold.mg KTold.kp KTold.b .nil pass0 (pa_cons (pv 8) (pa_cons (pv 5) pa_nil))) pa_nil)) (pe_callB (call_reprD hA hr.units) (by rfl) T.repr (by decide +kernel) (pa_cons (pe_lc (own := [("part", 20)]) (g := gName 20) (tt := tYes) rfl scLaw.nd (pi_list (pe_slice sl_list (pv 7) po_none (po_some (pv 12)))) (blkOk_by (N := ["script", "pen", "names", "denials", "lap", "name", "other", "parts", "paper", "attributes", "twin", "its", "many", "at", "more", "is_like_v", "value", "caught", "both", "told_parts", "part", "one"]) (sc := defScope sLaw) (by decide +kernel)) (fun _ _ _ _ _ => pg_name (i := 20) scLaw.nd rfl (Or.inl rfl)) (fun _ _ _ _ _ => pts_nil) (fun _ _ _ _ _ => (pe_call KFix.ok (hr.mono (by omega)) (by rfl) KFix.mg KFix.kp KFix.b .nil pass0 (pa_cons (pv 20) pa_nil)))) pa_nil)) (nomark _)) (pw_or (pt_cmpR (op_neP isE FE hE L.nes hmo (hr.mono (by omega))) (pv 8) (pv 10) (nomark _)) (pw_or (pt_not (pt_cmpR (op_eqP isE FE hE (hr.mono (by omega))) (pv 8) (pv 10) (nomark _))) (pw_or1 (pt_cmpR op_ne (pe_callTy (call_booP isB FB hB (hr.mono (by omega))) (by rfl) T.bool (by decide +kernel) (pa_cons (pv 8) pa_nil)) (pe_cmpR op_notIn_seq (pv 5) (pv 3) (by rfl)) (nomark _))))))) (pss_one (ps_ret pe_bl)) pss_nil)
        (pss_cons (ps_if (PW.pt (pw_or (pt_not (pt_val (pe_callB call_isi (by rfl) T.isinstance (by decide +kernel) (pa_cons (pv 8) (pa_cons (pe_glob (v := .ref _) (by rfl) L.mgP rfl) pa_nil))))) (pw_or (pt_cmpR op_ne (pe_callB call_isi (by rfl) T.isinstance (by decide +kernel) (pa_cons (pv 8) (pa_cons (pe_glob (v := .ref _) (by rfl) L.mgD rfl) pa_nil))) (pe_cmpR op_in_seq (pv 5) (pv 3) (by rfl)) (nomark _)) (pw_or (pt_cmpR op_ne (pe_cmpR (op_eqP isE FE hE (hr.mono (by omega))) (pv 8) (pv 11) (nomark _)) (pe_cmpR op_eq (pv 5) (pv 6) (nomark _)) (nomark _)) (pw_or (pt_cmpR (op_eqP isE FE hE (hr.mono (by omega))) (pv 8) (pv 7) (nomark _)) (pw_or1 (pt_cmpR (op_eqP isE FE hE (hr.mono (by omega))) (pv 8) pe_int (nomark _)))))))) (pss_one (ps_ret pe_bl)) pss_nil)
        (pss_cons (ps_set (i := 13) scLaw.nd rfl (Or.inl rfl) (pe_call KDraw.ok (hr.mono (by omega)) (by rfl) KDraw.mg KDraw.kp KDraw.b .nil pass0 (pa_cons (pv 1) (pa_cons (pv 12) pa_nil))))
        (pss_cons (ps_set (i := 14) scLaw.nd rfl (Or.inl rfl) (pe_op op_cat (pe_op op_cat (pe_slice sl_list (pv 7) po_none (po_some (pv 13))) (pe_lst (pa_cons (pe_call KV1.ok (hr.mono (by omega)) (by rfl) KV1.mg KV1.kp KV1.b .nil pass0 (pa_cons (pv 1) (pa_cons pe_int pa_nil))) pa_nil))) (pe_slice sl_list (pv 7) (po_some (pe_op op_add (pv 13) pe_int)) po_none)))
        (pss_cons (ps_set (i := 15) scLaw.nd rfl (Or.inl rfl) (pe_cmpR op_eq (pe_callB (call_reprD hA hr.units) (by rfl) T.repr (by decide +kernel) (pa_cons (pe_call KFix.ok (hr.mono (by omega)) (by rfl) KFix.mg KFix.kp KFix.b .nil pass0 (pa_cons (pe_slice sl_list (pv 14) po_none (po_some (pv 12))) pa_nil)) pa_nil)) (pe_callB (call_reprD hA hr.units) (by rfl) T.repr (by decide +kernel) (pa_cons (pe_call KFix.ok (hr.mono (by omega)) (by rfl) KFix.mg KFix.kp KFix.b .nil pass0 (pa_cons (pe_slice sl_list (pv 7) po_none (po_some (pv 12))) pa_nil)) pa_nil)) (nomark _)))
        (pss_one (ps_if (pt_cmpR op_ne (pe_cmpR (op_eqP isE FE hE (hr.mono (by omega))) (pe_ix ix_tup (pe_call KMade.ok (hr.mono (by omega)) (by rfl) KMade.mg KMade.kp KMade.b .nil pass0 (pa_cons (pv 5) (pa_cons (pv 14) pa_nil))) pe_int (fun _ _ => rfl)) (pv 8) (nomark _)) (pv 15) (nomark _)) (pss_one (ps_ret pe_bl)) pss_nil)))))))))))))
        (C8.pss_cut (ps_set (i := 16) scLaw.nd rfl (Or.inl rfl) (pe_call KV2.ok (hr.mono (by omega)) (by rfl) KV2.mg KV2.kp KV2.b .nil pass0 (pa_cons (pv 1) (pa_cons pe_int pa_nil))))
        (C8.pss_cut (ps_set (i := 17) scLaw.nd rfl (Or.inl rfl) (pe_lst (pa_cons (pe_newE (i := 0) (by decide) (L.err 0 (by decide)) rfl (hr.mono (by omega)) (by rfl) (pa_cons (pv 16) pa_nil)) (pa_cons (pe_newE (i := 1) (by decide) (L.err 1 (by decide)) rfl (hr.mono (by omega)) (by rfl) (pa_cons (pv 16) pa_nil)) (pa_cons (pe_newE (i := 2) (by decide) (L.err 2 (by decide)) rfl (hr.mono (by omega)) (by rfl) (pa_cons (pv 16) pa_nil)) (pa_cons (pe_newE (i := 3) (by decide) (L.err 3 (by decide)) rfl (hr.mono (by omega)) (by rfl) (pa_cons (pv 16) pa_nil)) (pa_cons (pe_newE (i := 4) (by decide) (L.err 4 (by decide)) rfl (hr.mono (by omega)) (by rfl) (pa_cons (pv 16) pa_nil)) (pa_cons (pe_newE (i := 5) (by decide) (L.err 5 (by decide)) rfl (hr.mono (by omega)) (by rfl) (pa_cons (pv 16) pa_nil)) pa_nil))))))))
        (C8.pss_cut (ps_set (i := 17) scLaw.nd rfl (Or.inl rfl) (pe_op op_cat (pv 17) (pe_lst (pa_cons (pe_newE (i := 6) (by decide) (L.err 6 (by decide)) rfl (hr.mono (by omega)) (by rfl) (pa_cons (pv 16) pa_nil)) (pa_cons (pe_newE (i := 7) (by decide) (L.err 7 (by decide)) rfl (hr.mono (by omega)) (by rfl) (pa_cons (pv 16) pa_nil)) (pa_cons (pe_newE (i := 8) (by decide) (L.err 8 (by decide)) rfl (hr.mono (by omega)) (by rfl) (pa_cons (pv 16) pa_nil)) (pa_cons (pe_newE (i := 9) (by decide) (L.err 9 (by decide)) rfl (hr.mono (by omega)) (by rfl) (pa_cons (pv 16) pa_nil)) (pa_cons (pe_newE (i := 12) (by decide) (L.err 12 (by decide)) rfl (hr.mono (by omega)) (by rfl) (pa_cons (pv 16) pa_nil)) (pa_cons (pe_newE (i := 13) (by decide) (L.err 13 (by decide)) rfl (hr.mono (by omega)) (by rfl) (pa_cons (pv 16) pa_nil)) pa_nil)))))))))
        (C8.pss_cut (ps_if (PW.pt (pw_or (pt_cmpR op_ne (pe_callB (call_reprD hA hr.units) (by rfl) T.repr (by decide +kernel) (pa_cons (pe_lc (own := [("one", 21)]) (g := gName 21) (te := tXv K "part" (tVar 21)) (tt := tYes) rfl scLaw.nd (pi_list (pv 17)) (blkOk_by (N := ["script", "pen", "names", "denials", "lap", "name", "other", "parts", "paper", "attributes", "twin", "its", "many", "at", "more", "is_like_v", "value", "caught", "both", "told_parts", "part", "one"]) (sc := defScope sLaw) (by decide +kernel)) (fun _ _ _ _ _ => pg_name (i := 21) scLaw.nd rfl (Or.inl rfl)) (fun _ _ _ _ _ => pts_nil) (fun _ _ _ _ _ => (pe_xv (pv 21) (by rfl)))) pa_nil)) (pe_callB (call_reprD hA hr.units) (by rfl) T.repr (by decide +kernel) (pa_cons (pe_op op_rep (pe_lst (pa_cons (pv 16) pa_nil)) pe_int) pa_nil)) (nomark _)) (pw_or1 (pt_cmpR (op_neD hr.units) (pe_lc (own := [("one", 21)]) (g := gName 21) (tt := tOr (tNot (tB (tCB (rIsiX K) (tCons (tVar 21) (tCons (tC (.ref Ce)) tNil))))) (tNot (tB (tCB (rIsiX K) (tCons (tVar 21) (tCons (tC (.ty "ValueError")) tNil)))))) rfl scLaw.nd (pi_list (pv 17)) (blkOk_by (N := ["script", "pen", "names", "denials", "lap", "name", "other", "parts", "paper", "attributes", "twin", "its", "many", "at", "more", "is_like_v", "value", "caught", "both", "told_parts", "part", "one"]) (sc := defScope sLaw) (by decide +kernel)) (fun _ _ _ _ _ => pg_name (i := 21) scLaw.nd rfl (Or.inl rfl)) (fun _ _ _ _ _ => pts_one (PW.pt (pw_or (pt_not (pt_val (pe_callB call_isiX (by rfl) T.isinstance (by decide +kernel) (pa_cons (pv 21) (pa_cons (pe_glob (v := .ref _) (by rfl) L.mgC rfl) pa_nil))))) (pw_or1 (pt_not (pt_val (pe_callB call_isiX (by rfl) T.isinstance (by decide +kernel) (pa_cons (pv 21) (pa_cons (pe_bltn (v := .ty "ValueError") (by rfl) T.ValueError (by decide +kernel) rfl) pa_nil))))))))) (fun _ _ _ _ _ => (pv 21))) (pe_lst pa_nil) (nomark _))))) (pss_one (ps_ret pe_bl)) pss_nil)
        (C8.pss_cut (ps_set (i := 18) scLaw.nd rfl (Or.inl rfl) (pe_lst (pa_cons (pe_newE (i := 15) (by decide) (L.err 15 (by decide)) rfl (hr.mono (by omega)) (by rfl) (pa_cons (pv 16) (pa_cons pe_non pa_nil))) (pa_cons (pe_newE (i := 17) (by decide) (L.err 17 (by decide)) rfl (hr.mono (by omega)) (by rfl) (pa_cons pe_str (pa_cons (pv 16) pa_nil))) pa_nil))))
        (C8.pss_cut (ps_set (i := 19) scLaw.nd rfl (Or.inl rfl) (pe_lst (pa_cons (pe_xv (pe_newE (i := 10) (by decide) (L.err 10 (by decide)) rfl (hr.mono (by omega)) (by rfl) (pa_cons (pv 16) pa_nil)) (by rfl)) (pa_cons (pe_xv (pe_newEK (i := 11) (y := "value") (L.err 11 (by decide)) rfl rfl (hr.mono (by omega)) (by rfl) (pv 16)) (by rfl)) (pa_cons (pe_xv (pe_newE (i := 14) (by decide) (L.err 14 (by decide)) rfl (hr.mono (by omega)) (by rfl) (pa_cons (pv 16) pa_nil)) (by rfl)) (pa_cons (pe_xv (pe_newEK (i := 16) (y := "word") (L.err 16 (by decide)) rfl rfl (hr.mono (by omega)) (by rfl) (pv 16)) (by rfl)) (pa_cons (pe_xv (pe_ix ix_list (pv 18) pe_int (fun _ _ => rfl)) (by rfl)) (pa_cons (pe_xv (pe_ix ix_list (pv 18) pe_int (fun _ _ => rfl)) (by rfl)) (pa_cons (pe_xv (pe_ix ix_list (pv 18) pe_int (fun _ _ => rfl)) (by rfl)) (pa_cons (pe_xv (pe_ix ix_list (pv 18) pe_int (fun _ _ => rfl)) (by rfl)) pa_nil))))))))))
        (pss_one (ps_ret (pe_cmpR op_eq (pe_callB (call_reprD hA hr.units) (by rfl) T.repr (by decide +kernel) (pa_cons (pv 19) pa_nil)) (pe_callB (call_reprD hA hr.units) (by rfl) T.repr (by decide +kernel) (pa_cons (pe_op op_cat (pe_op op_rep (pe_lst (pa_cons (pv 16) pa_nil)) pe_int) (pe_lst (pa_cons pe_non (pa_cons pe_str (pa_cons (pv 16) pa_nil))))) pa_nil)) (nomark _))))))))))))), ?_⟩
  -- the pen
  refine ⟨fun σ' H' => ∃ (p c : Addr) (cells : List Int), σ' = [some (.ref a), some (.ref p), none, none, none, none, none, none, none, none, none, none, none, none, none, none, none, none, none, none, none, none] ∧ PenAt H' p c cells 0 0 ∧ cells.length ≤ 63, ?_, ?_⟩
  · exact ⟨_, rfl, a, ns, rfl, ha, hl, fun ms p c H' hm _ _ _ hpen => ⟨p, c, ms, rfl, hpen, hm⟩⟩
  rintro _ Hb ⟨p, c, cells, rfl, hpb, hcl⟩
  -- the two lists
  refine ⟨fun σ' H' => ∃ nA dA : Addr, σ' = [some (.ref a), some (.ref p), some (.ref nA), some (.ref dA), none, none, none, none, none, none, none, none, none, none, none, none, none, none, none, none, none, none] ∧ nA ≠ p ∧ dA ≠ p ∧ LoopH Hb p c cells nA dA 0 H', ?_, ?_⟩
  · refine ⟨by show 11 ≤ sizeLine; decide, fun nA hn => ⟨by show 5 ≤ sizeLine; decide, fun dA hd => ⟨_, _, rfl, nA, dA, rfl, ?_, ?_, ?_⟩⟩⟩
    · exact fun z => hpb.some (by rw [← z]; exact hn)
    · exact fun z => (hpb.keep hn).some (by rw [← z]; exact hd)
    · exact ⟨Keep.of ((same_upd hn).trans (same_upd hd)), same_upd hd _ _ upd_same, upd_same, 0, 0, (hpb.keep hn).keep hd, by omega, by omega⟩
  rintro _ Hn ⟨nA, dA, rfl, hnp, hdp, hLn⟩
  -- the loop
  refine ⟨fun σ' H' => LoopS a p nA dA σ' ∧ LoopH Hb p c cells nA dA 2400 H', ?_, ?_⟩
  · refine ⟨12, rfl, by decide, by decide, ?_⟩
    refine for_range (n := (12 : Int).toNat) (fun i σ H => LoopS a p nA dA σ ∧ LoopH Hb p c cells nA dA (200 * (i : Int)) H) ⟨⟨_, _, _, _, _, _, _, _, _, _, _, _, rfl⟩, by simpa using hLn⟩ (fun i σ Hi hi hP => ?_) (fun σ H h => ⟨h.1, by have h2 := h.2; rw [show (200 : Int) * ((Int.toNat 12 : Nat) : Int) = 2400 by decide] at h2; exact h2⟩)
    obtain ⟨⟨o4, o5, o6, o7, o8, o9, o10, o11, o12, o13, o14, o15, rfl⟩, hk, hnA, hdA, n, rest, hp, n0, n1⟩ := hP
    have hi2 : i < 12 := hi
    have hm200 : (200 : Int) * ((i + 1 : Nat) : Int) = 200 * (i : Int) + 200 := by rw [Int.natCast_add, Int.mul_add]; rfl
    have hb200 : (200 : Int) * (i : Int) ≤ 2200 := by omega
    -- name, other
    refine ⟨_, rfl, _, rfl, p, c, cells, n, rest, nA, namesV, rfl, hp, n0, by omega, hcl, hnA, hnp, by decide, by decide, fun j v n1' rest1 H1 hv m0 m1 k1 hp1 => ?_⟩
    obtain ⟨hj, rfl⟩ := names_pick hv
    refine ⟨_, rfl, _, rfl, p, c, cells, n1', rest1, nA, namesV, rfl, hp1, by omega, by omega, hcl, k1 _ _ hnp hnA, hnp, by decide, by decide, fun j2 v2 n2 rest2 H2 hv2 m2 m3 k2 hp2 => ?_⟩
    obtain ⟨hj2, rfl⟩ := names_pick hv2
    refine ⟨_, _, rfl, ?_⟩
    -- parts
    have hk2 : Keep p Hb H2 := (hk.trans k1).trans k2
    refine ⟨5, rfl, by decide, by decide, fun D hD => ?_⟩
    have hDp : D ≠ p := fun z => hp2.some (by rw [← z]; exact hD)
    have hDc : D ≠ c := fun z => by
      have := hp2.cel
      rw [← z, hD] at this
      cases this
    refine lc_range (n := (5 : Int).toNat) (fun i H' => ∃ (ds : List PyData) (n3 rest3 : Int), ds.length = i ∧ (∀ x ∈ ds, LV 2 x) ∧ n2 ≤ n3 ∧ n3 ≤ n2 + i * 17 ∧ FillK K p H2 D ds H' ∧ PenAt H' p c cells n3 rest3) ⟨[], n2, rest2, rfl, (fun x hx => absurd hx (List.not_mem_nil)), by omega, by simp, FillK.nil hD, hp2.keep hD⟩ (fun i H3 hi f => ?_) (fun H3 f => ?_)
    · obtain ⟨ds, n3, rest3, rfl, hds, m4, m5, f, hp3⟩ := f
      have hi5 : ds.length < 5 := hi
      refine ⟨rfl, _, rfl, p, c, cells, n3, rest3, rfl, hp3, by omega, by show n3 + 17 ≤ 100000; omega, hcl, fun v x n4 rest4 H4 m6 m7 kp4 hp4 hx hv => ?_⟩
      have m7' : n4 ≤ n3 + 17 := m7
      obtain ⟨acc, e1, e2, f2⟩ := f.put hD hp2.some hp3.some kp4 hv
      refine ⟨acc, e1, ?_, ds ++ [x], n4, rest4, by rw [List.length_append]; rfl, ?_, by omega, by omega, f2, hp4.wr hDp hDc⟩
      · rw [e2, sizeLine_eq]
        omega
      · intro y hy
        rcases List.mem_append.mp hy with h | h
        · exact hds y h
        · obtain rfl := List.mem_singleton.mp h
          exact hx
    obtain ⟨ds, n3, rest3, hdl, hds, m4, m5, ⟨k3, acc, eD3, dacc⟩, hp3⟩ := f
    have m5' : n3 ≤ n2 + 85 := m5
    have hdl5 : ds.length = 5 := hdl
    have hk3 : Keep p Hb H3 := hk2.trans k3
    have hD2 : Hb D = none := by
      cases e : Hb D with
      | none => rfl
      | some u => rw [hk2 D u hDp e] at hD; cases hD
    have pD : nw Hb H3 D = some (.lst acc) := by rw [nw_at hD2]; exact eD3
    have pacc : DpAll K (nw Hb H3) acc ds := dpa_same (nwx_le.trans (nw_subK hk2 hp2.some)) dacc
    have hnA3 : H3 nA = some (.lst namesV) := k3 _ _ hnp (k2 _ _ hnp (k1 _ _ hnp hnA))
    have hdA3 : H3 dA = some (.lst densV) := k3 _ _ hdp (k2 _ _ hdp (k1 _ _ hdp hdA))
    have hlacc : acc.length = 5 := (dpa_len pacc).trans hdl5
    clear dacc k1 k2 hp1 hp2 hD
    have hsd : ∀ d ∈ ds, SD 3 d := fun d hd => sd_lv (hds d hd)
    have pc := (L.pap j hj).pc
    have pacc3 : DpAll K H3 acc ds := dpa_same nw_le pacc
    have hG : ∀ {Hx : Hp}, Same H3 Hx → Same (nw Hb H3) (nw Hb Hx) := fun s => nw_grow s
    -- paper, attributes
    refine ⟨_, rfl, _, rfl, j, D, acc, ds, hj, rfl, .inl (SqL.of eD3), hlacc, pacc3, hsd, fun x T1 A1 H4 M1 eT1 eA1 => ?_⟩
    refine ⟨T1, _, rfl, SqT.of eT1, rfl, _, _, rfl, _, _, rfl, rfl, ?_⟩
    -- twin, its
    refine ⟨_, rfl, _, rfl, .ref D, .list ds, rfl, .lst (SqL.of (M1.same _ _ eD3)) (dpa_same M1.same pacc3), .list (by omega) hsd, fun v' H5 s5 hv' => ?_⟩
    rw [fx_list] at hv'
    obtain ⟨F, xsF, rfl, qF, dF⟩ := dp_tup hv'
    have lF : xsF.length = 5 := (dpa_len dF).trans (by rw [List.length_map]; exact hdl5)
    refine ⟨j, F, xsF, ds.map fx, hj, rfl, .inr (sqt_same nw_le qF), lF, dpa_same nw_le dF, (fun d hd => by
      obtain ⟨y, hy, rfl⟩ := List.mem_map.mp hd
      exact sd_pv 3 _ (fx_lv (hds y hy))), fun x2 T2 A2 H6 M2 eT2 eA2 => ?_⟩
    refine ⟨T2, _, 0, .ref x2, rfl, rfl, SqT.of eT2, rfl, ?_⟩
    have s46 : Same H4 H6 := s5.trans M2.same
    have s36 : Same H3 H6 := M1.same.trans s46
    refine ⟨_, rfl, _, rfl, j2, D, acc, ds, hj2, rfl, .inl (SqL.of (s36 _ _ eD3)), hlacc, dpa_same s36 pacc3, hsd, fun x3 T3 A3 H7 M3 eT3 eA3 => ?_⟩
    refine ⟨T3, _, 0, .ref x3, rfl, rfl, SqT.of eT3, rfl, _, _, rfl, ?_⟩
    have s47 : Same H4 H7 := s46.trans M3.same
    have s37 : Same H3 H7 := s36.trans M3.same
    have kb7 : Keep p Hb H7 := hk3.trans (Keep.of s37)
    -- what the three papers are, in the new part
    have P1 : IsP K Pa (nw Hb H7) x (CC j) (nmOf j) (trOf j) ((ds.take (flOf j).length).map fx) := (made_isP hj pc M1 (take_pv hds (by omega))).same ((nw_subK hk3 hp3.some).trans (nw_grow s47))
    have P2 : IsP K Pa (nw Hb H7) x2 (CC j) (nmOf j) (trOf j) ((ds.take (flOf j).length).map fx) := by
      have M2' := M2
      rw [fx_twice hds] at M2'
      exact (made_isP hj pc M2' (take_pv hds (by omega))).same ((nw_subK (hk3.trans (Keep.of (M1.same.trans s5))) ((hp3.same (M1.same.trans s5)).some)).trans (nw_grow M3.same))
    have P3 : IsP K Pa (nw Hb H7) x3 (CC j2) (nmOf j2) (trOf j2) ((ds.take (flOf j2).length).map fx) := (made_isP hj2 (L.pap j2 hj2).pc M3 (take_pv hds (by omega))).same (nw_subK (hk3.trans (Keep.of s36)) (hp3.same s36).some)
    -- many
    refine ⟨_, rfl, A1, _, rfl, .inl (SqL.of (s47 _ _ eA1)), ?_⟩
    -- the first test: the two texts
    obtain ⟨dx1, pv1, xs1, e1, q1, d1⟩ := M1.at_
    have lx1 : xs1.length = (flOf j).length := by
      rw [dpa_len d1, List.length_map, List.length_take, hdl5]
      have := (fl_len j hj).2
      omega
    refine ⟨_, rfl, _, rfl, j, x, dx1, pv1, xs1, hj, rfl, pc.cls, (L.pap j hj).na, lx1, s47 _ _ e1, fun L8 H8 s8 hL8 eL8 => ?_⟩
    have fit1 : RV 4 (.list ((ds.take (flOf j).length).map fx)) := .list (by rw [List.length_map, List.length_take]; omega) fun y hy => by
      obtain ⟨z, hz, rfl⟩ := List.mem_map.mp hy
      exact rv_pv 3 _ (fx_lv (hds z (List.mem_of_mem_take hz)))
    obtain ⟨f1a, f1b, f1c⟩ := rv_fits fit1 (by omega)
    refine ⟨L8, .list ((ds.take (flOf j).length).map fx), rfl, .lst (SqL.of eL8) (dpa_same (nw_le.trans (s47.trans s8)) d1), f1a, f1b, f1c, ?_⟩
    have lstr : ((flOf j).map V.str).length = (flOf j).length := List.length_map ..
    have s38 : Same H3 H8 := s37.trans s8
    refine ⟨_, rfl, _, rfl, _, rfl, D, acc, rfl, SqL.of (s38 _ _ eD3), fun q9 hq9 => ?_⟩
    rw [cut_take, lstr]
    have s39 := s38.trans (same_upd (o := .lst (acc.take (flOf j).length)) hq9)
    refine ⟨q9, rfl, ⟨_, SqL.of upd_same⟩, fun D9 hD9 => ?_⟩
    refine lc_list (xs := acc.take (flOf j).length) (fun i H' => Fill K (upd H8 q9 (.lst (acc.take (flOf j).length))) D9 (((ds.take (flOf j).length).take i).map fx) H') (Fill.nil hD9) (fun i H' _ f => Same.seq f.1 (SqL.of upd_same)) (fun i y H' hy f => ?_) (fun H9 f => ?_)
    · obtain ⟨d, hd, hyd⟩ := dpa_get (dpa_take (flOf j).length (dpa_same s39 pacc3)) hy
      refine ⟨rfl, _, rfl, y, d, rfl, dp_same f.1 hyd, (hsd d (List.mem_of_mem_take (List.mem_of_getElem? hd))).succ, fun v' H'' s' hv' => ?_⟩
      obtain ⟨acc9, e9, l9, f9⟩ := f.put hD9 s' hv'
      refine ⟨acc9, e9, ?_, by rw [take_snoc hd]; exact f9⟩
      rw [l9, sizeLine_eq]
      simp only [List.length_map, List.length_take]
      omega
    obtain ⟨s9, acc9, e9, d9⟩ := f
    have s9' : Same H7 H9 := (s8.trans (same_upd hq9)).trans s9
    have e10 : (acc.take (flOf j).length).length = (ds.take (flOf j).length).length := by rw [List.length_take, List.length_take, hlacc, hdl5]
    rw [e10, List.take_length] at d9
    refine ⟨D9, .list ((ds.take (flOf j).length).map fx), rfl, .lst (SqL.of e9) (dpa_same (nwx_le.trans nw_le) d9), f1a, f1b, f1c, rfl, _, rfl, ?_⟩
    refine ifF (by simp) ?_
    -- paper != twin
    have P1' := P1.same (nw_grow (H := Hb) s9')
    have P2' := P2.same (nw_grow (H := Hb) s9')
    have P3' := P3.same (nw_grow (H := Hb) s9')
    refine ⟨_, rfl, _, rfl, neP_paper L hj hj (P1'.same nw_le) (P2'.same nw_le) fun H10 s10 => ⟨_, rfl, ?_⟩⟩
    refine ifF (by rw [lik_self]; simp) ?_
    -- not (paper == twin)
    refine ⟨_, rfl, _, rfl, eqP_paper L hj hj ((P1'.same nw_le).same s10) ((P2'.same nw_le).same s10) fun H11 s11 => ⟨_, rfl, ?_⟩⟩
    refine ifF (by rw [lik_self]; simp) ?_
    -- bool(paper)
    have s711 : Same H7 H11 := (s9'.trans s10).trans s11
    have P1'' := P1.same (nw_grow (H := Hb) s711)
    have hdA11 : H11 dA = some (.lst densV) := (s37.trans s711) _ _ hdA3
    obtain ⟨dxB, fsB, pvB, xsB, eB, lB1, lB2, lB3, _⟩ := (P1''.same nw_le).at_
    refine ⟨_, rfl, j, hj, x, dxB, fsB, rfl, eB, x, CC j, dxB, fsB, nmOf j, trOf j, rfl, pc, eB, lB3, _, rfl, ?_⟩
    refine ⟨_, rfl, _, rfl, dA, densV, rfl, .inl (SqL.of hdA11), rfl, rfl, rfl, _, rfl, ?_⟩
    refine ifF ?_ ?_
    · show (!decide (V.bl (trOf j) = V.bl (!inV (.str (nmOf j)) densV))) = false
      rw [dens_in j hj]
      simp
    -- the second test
    have ePc := pc.ty eB
    refine ⟨_, rfl, _, _, _, _, _, rfl, .own Pa, ePc, pc.isP, true, rfl, ?_⟩
    refine iteF ?_
    refine ⟨_, rfl, _, _, _, _, _, rfl, .own Dn, ePc, L.isD j hj, _, rfl, _, rfl, dA, densV, rfl, .inl (SqL.of hdA11), rfl, rfl, rfl, _, rfl, ?_⟩
    refine ifF ?_ ?_
    · show (!decide (V.bl (!trOf j) = V.bl (inV (.str (nmOf j)) densV))) = false
      rw [dens_in j hj]
      simp
    have P3'' := P3.same (nw_grow (H := Hb) s711)
    refine ⟨_, rfl, _, rfl, eqP_paper L hj hj2 (P1''.same nw_le) (P3''.same nw_le) fun H12 s12 => ⟨_, rfl, _, rfl, rfl, rfl, _, rfl, ?_⟩⟩
    refine ifF (same_word hj hj2) ?_
    have s312 := (s37.trans s711).trans s12
    refine ⟨_, rfl, _, rfl, eqP_other hj ((P1''.same nw_le).same s12) (ty_list (SqL.of (s312 _ _ eD3))) (L.nfL j hj) L.lP fun H13 s13 => ⟨_, rfl, iteF ?_⟩⟩
    refine ⟨_, rfl, eqP_other hj (((P1''.same nw_le).same s12).same s13) (.base (.int 5)) (L.nfI j hj) L.iP fun H14 s14 => ⟨_, rfl, iteF ?_⟩⟩
    have s314 := (s312.trans s13).trans s14
    have s714 : Same H7 H14 := ((s711.trans s12).trans s13).trans s14
    have Q1 := P1.same (nw_grow (H := Hb) s714)
    have kb14 : Keep p Hb H14 := hk3.trans (Keep.of s314)
    have hp14 := hp3.same s314
    have fl := fl_len j hj
    -- at
    refine ⟨_, rfl, _, rfl, p, c, cells, n3, rest3, ((flOf j).length : Int), rfl, hp14, by omega, by omega, hcl, by omega, by omega, fun r n5 rest5 H15 r0 r1 m8 m9 k15 hp15 => ?_⟩
    obtain ⟨m, rfl⟩ := Int.eq_ofNat_of_zero_le r0
    have hmj : m < (flOf j).length := by omega
    have kb15 : Keep p Hb H15 := kb14.trans k15
    have g15 : Same (nw Hb H3) (nw Hb H15) := (nw_grow s314).trans (nw_growK k15 hpb.some)
    have pD15 := g15 _ _ pD
    have pacc15 := dpa_same g15 pacc
    have Q1' := Q1.same (nw_growK k15 hpb.some)
    -- more
    refine ⟨_, rfl, _, rfl, _, rfl, D, acc, rfl, SqL.of (nw_le _ _ pD15), fun q1 hq1 => ?_⟩
    rw [cut_take]
    have hpq1 : PenAt (upd H15 q1 (.lst (acc.take m))) p c cells n5 rest5 := hp15.keep hq1
    refine ⟨_, rfl, p, c, cells, n5, rest5, rfl, hpq1, by omega, by show n5 + 5 ≤ 100000; omega, hcl, fun v6 x6 n6 rest6 H16 m10 m11 k16 hp16 hx6 hv6 => ⟨by show 1 ≤ sizeLine; decide, fun q2 hq2 => ?_⟩⟩
    have m11' : n6 ≤ n5 + 5 := m11
    have q1p : q1 ≠ p := fun z => hp15.some (by rw [← z]; exact hq1)
    have kbq1 : Keep p Hb (upd H15 q1 (.lst (acc.take m))) := kb15.trans (Keep.of (same_upd hq1))
    have eq1 : H16 q1 = some (.lst (acc.take m)) := k16 _ _ q1p upd_same
    have g16 : Same (nw Hb H15) (nw Hb H16) := (nw_grow (same_upd hq1)).trans (nw_growK k16 hpb.some)
    have hv6' : Dp K (nw Hb H16) v6 x6 := dp_same (nw_subK kbq1 hpq1.some) hv6
    have s162 := same_upd (H := H16) (p := q2) (o := .lst [v6]) hq2
    have lm : acc.length = 5 := hlacc
    refine ⟨q1, q2, _, _, rfl, rfl, s162 _ _ eq1, upd_same, by rw [List.length_take, sizeLine_eq]; show _ + 1 ≤ _; omega, fun q3 hq3 => ?_⟩
    have s163 := s162.trans (same_upd (o := .lst (acc.take m ++ [v6])) hq3)
    have pD16 := g16 _ _ pD15
    refine ⟨_, rfl, _, rfl, _, _, rfl, rfl, _, rfl, D, acc, rfl, SqL.of (s163 _ _ (nw_le _ _ pD16)), fun q4 hq4 => ?_⟩
    rw [cut_drop1]
    have s164 := s163.trans (same_upd (o := .lst (acc.drop (m + 1))) hq4)
    refine ⟨q3, q4, _, _, rfl, rfl, same_upd hq4 _ _ upd_same, upd_same, by rw [List.length_append, List.length_take, List.length_drop, sizeLine_eq]; show _ + 1 + _ ≤ _; omega, fun q5 hq5 => ?_⟩
    obtain ⟨accM, hM⟩ : ∃ z, z = acc.take m ++ [v6] ++ acc.drop (m + 1) := ⟨_, rfl⟩
    rw [← hM]
    obtain ⟨dsM, hdM⟩ : ∃ z, z = ds.take m ++ [x6] ++ ds.drop (m + 1) := ⟨_, rfl⟩
    have pacc16 := dpa_same g16 pacc15
    have dM : DpAll K (nw Hb H16) accM dsM := by
      rw [hM, hdM]
      exact dpa_append (dpa_append (dpa_take m pacc16) (.cons hv6' .nil)) (dpa_drop (m + 1) pacc16)
    have hlM : dsM.length = 5 := by
      rw [hdM, List.length_append, List.length_append, List.length_take, List.length_drop]
      show min m ds.length + 1 + (ds.length - (m + 1)) = 5
      omega
    have hlaM : accM.length = 5 := (dpa_len dM).trans hlM
    have hdsM : ∀ d ∈ dsM, LV 2 d := fun d hd => by
      rw [hdM] at hd
      rcases List.mem_append.mp hd with hd | hd
      · rcases List.mem_append.mp hd with hd | hd
        · exact hds d (List.mem_of_mem_take hd)
        · obtain rfl := List.mem_singleton.mp hd
          exact hx6.succ
      · exact hds d (List.mem_of_mem_drop hd)
    have s165 := s164.trans (same_upd (o := .lst accM) hq5)
    clear hM hdM
    -- is_like_v
    refine ⟨_, rfl, _, rfl, _, rfl, q5, _, rfl, SqL.of upd_same, fun q6 hq6 => ?_⟩
    rw [cut_take]
    have s166 := s165.trans (same_upd (o := .lst (accM.take (flOf j).length)) hq6)
    refine ⟨.ref q6, .list (dsM.take (flOf j).length), rfl, .lst (SqL.of upd_same) (dpa_same (nw_le.trans s166) (dpa_take (flOf j).length dM)), .list (by rw [List.length_take]; omega) (fun d hd => sd_lv (hdsM d (List.mem_of_mem_take hd))), fun v7 H17 s17 hv7 => ?_⟩
    rw [fx_list] at hv7
    obtain ⟨F7, xs7, rfl, qF7, dF7⟩ := dp_tup hv7
    obtain ⟨f2a, f2b, f2c⟩ := rv_fits (rv_pv 4 _ (take_pv (k := (flOf j).length) hdsM (by omega))) (by omega)
    refine ⟨F7, .tuple ((dsM.take (flOf j).length).map fx), rfl, .tup (sqt_same nw_le qF7) (dpa_same nw_le dF7), f2a, f2b, f2c, ?_⟩
    have s167 := s166.trans s17
    refine ⟨_, rfl, _, rfl, _, rfl, D, acc, rfl, SqL.of (s167 _ _ (nw_le _ _ pD16)), fun q8 hq8 => ?_⟩
    rw [cut_take]
    have s168 := s167.trans (same_upd (o := .lst (acc.take (flOf j).length)) hq8)
    refine ⟨.ref q8, .list (ds.take (flOf j).length), rfl, .lst (SqL.of upd_same) (dpa_same (nw_le.trans s168) (dpa_take (flOf j).length pacc16)), .list (by rw [List.length_take]; omega) (fun d hd => sd_lv (hds d (List.mem_of_mem_take hd))), fun v9 H18 s18 hv9 => ?_⟩
    rw [fx_list] at hv9
    obtain ⟨F9, xs9, rfl, qF9, dF9⟩ := dp_tup hv9
    obtain ⟨f3a, f3b, f3c⟩ := rv_fits (rv_pv 4 _ (take_pv (k := (flOf j).length) hds (by omega))) (by omega)
    refine ⟨F9, .tuple ((ds.take (flOf j).length).map fx), rfl, .tup (sqt_same nw_le qF9) (dpa_same nw_le dF9), f3a, f3b, f3c, rfl, ?_⟩
    have s169 := s168.trans s18
    have e5 : H18 q5 = some (.lst accM) := s18 _ _ (same_upd hq8 _ _ (s17 _ _ (same_upd hq6 _ _ upd_same)))
    -- the last test
    have kb16 : Keep p Hb H16 := kbq1.trans k16
    refine ⟨_, rfl, _, rfl, j, q5, accM, dsM, hj, rfl, .inl (SqL.of e5), hlaM, dpa_same (nw_le.trans s169) dM, (fun d hd => sd_lv (hdsM d hd)), fun x8 T8 A8 H19 M8 eT8 eA8 => ?_⟩
    have P8 : IsP K Pa (nw H18 H19) x8 (CC j) (nmOf j) (trOf j) ((dsM.take (flOf j).length).map fx) := made_isP hj pc M8 (take_pv hdsM (by omega))
    have Q19 : IsP K Pa H19 x (CC j) (nmOf j) (trOf j) ((ds.take (flOf j).length).map fx) := (Q1'.same g16).same ((nw_le.trans s169).trans M8.same)
    refine ⟨T8, _, 0, .ref x8, rfl, rfl, SqT.of eT8, rfl, _, rfl, eqP_paper L hj hj (P8.same nw_le) Q19 fun H20 s20 => ⟨_, rfl, rfl, _, rfl, ?_⟩⟩
    refine ifF (like_told (by simp)) ?_
    have s1620 : Same H16 H20 := (s169.trans M8.same).trans s20
    refine ⟨⟨_, _, _, _, _, _, _, _, _, _, _, _, rfl⟩, kb16.trans (Keep.of s1620), s1620 _ _ (k16 _ _ hnp (same_upd hq1 _ _ (k15 _ _ hnp (s314 _ _ hnA3)))), s1620 _ _ (k16 _ _ hdp (same_upd hq1 _ _ (k15 _ _ hdp (s314 _ _ hdA3)))), n6, rest6, hp16.same s1620, by omega, by omega⟩
  rintro _ He ⟨⟨o4, o5, o6, o7, o8, o9, o10, o11, o12, o13, o14, o15, rfl⟩, hL⟩
  obtain ⟨hk, _, _, n, rest, hp, n0, n1⟩ := hL
  -- value
  refine ⟨fun σ' H' => ∃ (v : V) (x : PyData), AfterS a p nA dA (some v) none none none σ' ∧ LV 2 x ∧ Dp K H' v x, ?_, ?_⟩
  · exact ⟨_, rfl, p, c, cells, n, rest, rfl, hp, n0, by show n + 17 ≤ 100000; omega, hcl, fun v x n' rest' H' _ _ _ _ hx hv => ⟨v, x, ⟨_, _, _, _, _, _, _, _, _, _, _, _, rfl⟩, hx, dp_same nw_le hv⟩⟩
  clear hk hp hpb hcl hLn
  rintro _ H1 ⟨v, x, ⟨o4, o5, o6, o7, o8, o9, o10, o11, o12, o13, o14, o15, rfl⟩, hx, hv⟩
  have bad : ∀ {Hx : Hp} {e : Addr} {i : Nat}, i < 18 → efOf i = [("part" : Str)] → ExcAt Hx e (EE i) ((efOf i).zip [v]).reverse → IsBad EE Hx v (.ref e) := fun {Hx e i} h1 h2 h3 => ⟨e, i, h1, h2, rfl, by rw [h2] at h3; exact h3⟩
  -- the first six
  refine ⟨fun σ' H' => ∃ (q : Addr) (xs : List V), AfterS a p nA dA (some v) (some (.ref q)) none none σ' ∧ Dp K H' v x ∧ H' q = some (.lst xs) ∧ xs.length = 6 ∧ ∀ y ∈ xs, IsBad EE H' v y, ?_, ?_⟩
  · refine ⟨_, rfl, rfl, fun e0 G0 s0 _ x0 => ?_⟩
    refine ⟨_, rfl, rfl, fun e1 G1 s1 _ x1 => ?_⟩
    refine ⟨_, rfl, rfl, fun e2 G2 s2 _ x2 => ?_⟩
    refine ⟨_, rfl, rfl, fun e3 G3 s3 _ x3 => ?_⟩
    refine ⟨_, rfl, rfl, fun e4 G4 s4 _ x4 => ?_⟩
    refine ⟨_, rfl, rfl, fun e5 G5 s5 _ x5 => ?_⟩
    refine ⟨by show 6 ≤ sizeLine; decide, fun q hq => ⟨q, _, ⟨_, _, _, _, _, _, _, _, _, _, _, _, rfl⟩, dp_same ((((((s0.trans s1).trans s2).trans s3).trans s4).trans s5).trans (same_upd hq)) hv, upd_same, rfl, fun y hy => ?_⟩⟩
    rcases List.mem_cons.mp hy with rfl | hy
    · exact (bad (by decide) rfl x0).same (((((s1.trans s2).trans s3).trans s4).trans s5).trans (same_upd hq))
    rcases List.mem_cons.mp hy with rfl | hy
    · exact (bad (by decide) rfl x1).same ((((s2.trans s3).trans s4).trans s5).trans (same_upd hq))
    rcases List.mem_cons.mp hy with rfl | hy
    · exact (bad (by decide) rfl x2).same (((s3.trans s4).trans s5).trans (same_upd hq))
    rcases List.mem_cons.mp hy with rfl | hy
    · exact (bad (by decide) rfl x3).same ((s4.trans s5).trans (same_upd hq))
    rcases List.mem_cons.mp hy with rfl | hy
    · exact (bad (by decide) rfl x4).same (s5.trans (same_upd hq))
    obtain rfl := List.mem_singleton.mp hy
    exact (bad (by decide) rfl x5).same (same_upd hq)
  clear hv
  rintro _ H2 ⟨q, xs, ⟨o4, o5, o6, o7, o8, o9, o10, o11, o12, o13, o14, o15, rfl⟩, hv, eq, lq, hbad⟩
  -- the other six
  refine ⟨fun σ' H' => ∃ (q : Addr) (xs : List V), AfterS a p nA dA (some v) (some (.ref q)) none none σ' ∧ Dp K H' v x ∧ H' q = some (.lst xs) ∧ xs.length = 12 ∧ ∀ y ∈ xs, IsBad EE H' v y, ?_, ?_⟩
  · refine ⟨_, rfl, _, rfl, rfl, fun e0 G0 s0 _ x0 => ?_⟩
    refine ⟨_, rfl, rfl, fun e1 G1 s1 _ x1 => ?_⟩
    refine ⟨_, rfl, rfl, fun e2 G2 s2 _ x2 => ?_⟩
    refine ⟨_, rfl, rfl, fun e3 G3 s3 _ x3 => ?_⟩
    refine ⟨_, rfl, rfl, fun e4 G4 s4 _ x4 => ?_⟩
    refine ⟨_, rfl, rfl, fun e5 G5 s5 _ x5 => ?_⟩
    have s05 := ((((s0.trans s1).trans s2).trans s3).trans s4).trans s5
    refine ⟨by show 6 ≤ sizeLine; decide, fun q2 hq2 => ⟨q, q2, _, _, rfl, rfl, same_upd hq2 _ _ (s05 _ _ eq), upd_same, by rw [lq, sizeLine_eq]; show 6 + 6 ≤ _; omega, fun q3 hq3 => ⟨q3, _, ⟨_, _, _, _, _, _, _, _, _, _, _, _, rfl⟩, dp_same ((s05.trans (same_upd hq2)).trans (same_upd hq3)) hv, upd_same, by rw [List.length_append, lq]; rfl, fun y hy => ?_⟩⟩⟩
    have sE := (same_upd (o := HO.lst [.ref e0, .ref e1, .ref e2, .ref e3, .ref e4, .ref e5]) hq2).trans (same_upd (o := HO.lst (xs ++ [.ref e0, .ref e1, .ref e2, .ref e3, .ref e4, .ref e5])) hq3)
    rcases List.mem_append.mp hy with hy | hy
    · exact (hbad y hy).same (s05.trans sE)
    rcases List.mem_cons.mp hy with rfl | hy
    · exact (bad (by decide) rfl x0).same (((((s1.trans s2).trans s3).trans s4).trans s5).trans sE)
    rcases List.mem_cons.mp hy with rfl | hy
    · exact (bad (by decide) rfl x1).same ((((s2.trans s3).trans s4).trans s5).trans sE)
    rcases List.mem_cons.mp hy with rfl | hy
    · exact (bad (by decide) rfl x2).same (((s3.trans s4).trans s5).trans sE)
    rcases List.mem_cons.mp hy with rfl | hy
    · exact (bad (by decide) rfl x3).same ((s4.trans s5).trans sE)
    rcases List.mem_cons.mp hy with rfl | hy
    · exact (bad (by decide) rfl x4).same (s5.trans sE)
    obtain rfl := List.mem_singleton.mp hy
    exact (bad (by decide) rfl x5).same sE
  clear hv eq hbad lq
  rintro _ H3 ⟨q, xs, ⟨o4, o5, o6, o7, o8, o9, o10, o11, o12, o13, o14, o15, rfl⟩, hv, eq, lq, hbad⟩
  -- their parts, their kinds
  refine ⟨fun σ' H' => AfterS a p nA dA (some v) (some (.ref q)) none none σ' ∧ Dp K H' v x, ?_, ?_⟩
  · refine ⟨_, rfl, q, rfl, ⟨_, SqL.of eq⟩, fun D hD => ?_⟩
    refine lc_list (xs := xs) (fun i H' => Same H3 H' ∧ H' D = some (.lst (List.replicate i v))) ⟨same_upd hD, upd_same⟩ (fun i H' _ f => Same.seq f.1 (SqL.of eq)) (fun i y H' hy f => ?_) (fun H4 f => ?_)
    · obtain ⟨e, i2, h1, h2, rfl, d2, e1, e2⟩ := hbad y (List.mem_of_getElem? hy)
      have G := L.err i2 h1
      refine ⟨rfl, _, rfl, e, EE i2, d2, [("part", v)], v, rfl, f.1 _ _ e1, f.1 _ _ e2, G.x.x, G.na "part" (by rw [h2]; exact List.mem_singleton.mpr rfl), rfl, _, f.2, ?_, fun b o hb => ?_, ?_⟩
      · rw [List.length_replicate, sizeLine_eq]
        have := (List.getElem?_eq_some_iff.mp hy).1
        omega
      · rw [upd_ne (ne_of_none hb hD)]
        exact f.1 _ _ hb
      · rw [upd_same, List.replicate_succ']
    obtain ⟨s4, e4⟩ := f
    rw [lq] at e4
    have fit : RV 4 (.list (List.replicate 12 x)) := .list (by rw [List.length_replicate]; omega) fun y hy => by rw [List.eq_of_mem_replicate hy]; exact rv_lv hx
    obtain ⟨ga, gb, gc⟩ := rv_fits fit (by omega)
    have hv4 := dp_same s4 hv
    refine ⟨D, .list (List.replicate 12 x), rfl, .lst (SqL.of e4) (dpa_rep hv4 12), ga, gb, gc, ?_⟩
    refine ⟨_, rfl, by show 1 ≤ sizeLine; decide, fun r1 hr1 => ⟨r1, 12, [v], rfl, rfl, upd_same, by decide, by decide, by show 1 * 12 ≤ sizeLine; decide, fun r2 hr2 => ?_⟩⟩
    have sr := (same_upd (o := HO.lst [v]) hr1).trans (same_upd (o := HO.lst (List.replicate (12 : Int).toNat [v]).flatten) hr2)
    refine ⟨r2, .list (List.replicate 12 x), rfl, .lst (SqL.of upd_same) (dpa_rep (dp_same sr hv4) 12), ga, gb, gc, rfl, _, rfl, ?_⟩
    refine ifF (by simp) ?_
    have s5 := s4.trans sr
    refine ⟨_, rfl, q, rfl, ⟨_, SqL.of (s5 _ _ eq)⟩, fun D2 hD2 => ?_⟩
    refine lc_list (xs := xs) (fun i H' => Same H3 H' ∧ H' D2 = some (.lst [])) ⟨s5.trans (same_upd hD2), upd_same⟩ (fun i H' _ f => Same.seq f.1 (SqL.of eq)) (fun i y H' hy f => ?_) (fun H6 f => ?_)
    · obtain ⟨e, i2, h1, h2, rfl, d2, e1, e2⟩ := hbad y (List.mem_of_getElem? hy)
      have G := L.err i2 h1
      exact ⟨rfl, _, rfl, e, EE i2, d2, _, _, _, true, rfl, .own Ce, f.1 _ _ e1, f.1 _ _ e2, G.x, G.isC, true, rfl, iteF ⟨_, rfl, e, EE i2, d2, _, _, _, true, rfl, .ty "ValueError", f.1 _ _ e1, f.1 _ _ e2, G.x, G.isV, true, rfl, iteF f⟩⟩
    obtain ⟨s6, e6⟩ := f
    refine ⟨by show 0 ≤ sizeLine; decide, fun r3 hr3 => ⟨.list [], .list [], .lst (SqL.of (same_upd hr3 _ _ e6)) .nil, .lst (SqL.of upd_same) .nil, ints_shaped [], ints_shaped [], _, rfl, ?_⟩⟩
    refine ifF (by rfl) ?_
    exact ⟨⟨_, _, _, _, _, _, _, _, _, _, _, _, rfl⟩, dp_same (s6.trans (same_upd hr3)) hv⟩
  clear hv eq hbad lq
  rintro _ H4 ⟨⟨o4, o5, o6, o7, o8, o9, o10, o11, o12, o13, o14, o15, rfl⟩, hv⟩
  -- both
  refine ⟨fun σ' H' => ∃ (q b1 b2 : Addr) (o17 : Option V), AfterS a p nA dA (some v) o17 (some (.ref q)) none σ' ∧ Dp K H' v x ∧ H' q = some (.lst [.ref b1, .ref b2]) ∧ ExcAt H' b1 (EE 15) [("word", .non), ("line", v)] ∧ ExcAt H' b2 (EE 17) [("most", v), ("what", .str (Str.ofString "rows"))], ?_, ?_⟩
  · refine ⟨_, rfl, rfl, fun b1 G1 s1 _ x1 => ?_⟩
    refine ⟨_, rfl, rfl, fun b2 G2 s2 _ x2 => ?_⟩
    refine ⟨by show 2 ≤ sizeLine; decide, fun q hq => ⟨q, b1, b2, _, ⟨_, _, _, _, _, _, _, _, _, _, _, _, rfl⟩, dp_same ((s1.trans s2).trans (same_upd hq)) hv, upd_same, x1.same (s2.trans (same_upd hq)), x2.same (same_upd hq)⟩⟩
  clear hv
  rintro _ H5 ⟨q, b1, b2, o17, ⟨o4, o5, o6, o7, o8, o9, o10, o11, o12, o13, o14, o15, rfl⟩, hv, eq, ⟨db1, u1, w1⟩, ⟨db2, u2, w2⟩⟩
  -- what they tell
  refine ⟨fun σ' H' => ∃ t : Addr, AfterS a p nA dA (some v) o17 (some (.ref q)) (some (.ref t)) σ' ∧ Dp K H' v x ∧ H' t = some (.lst [v, v, v, v, v, .non, .str (Str.ofString "rows"), v]), ?_, ?_⟩
  · have X := fun i hi => (L.err i hi).x.x
    refine ⟨_, rfl, rfl, fun a1 G1 s1 _ ⟨d1, y1, z1⟩ => ⟨a1, EE 10, d1, _, v, rfl, y1, z1, X 10 (by decide), (L.err 10 (by decide)).na _ (List.mem_singleton.mpr rfl), rfl, ?_⟩⟩
    refine ⟨_, rfl, rfl, fun a2 G2 s2 _ ⟨d2, y2, z2⟩ => ⟨a2, EE 11, d2, _, v, rfl, y2, z2, X 11 (by decide), (L.err 11 (by decide)).na _ (List.mem_singleton.mpr rfl), rfl, ?_⟩⟩
    refine ⟨_, rfl, rfl, fun a3 G3 s3 _ ⟨d3, y3, z3⟩ => ⟨a3, EE 14, d3, _, v, rfl, y3, z3, X 14 (by decide), (L.err 14 (by decide)).na _ (List.mem_singleton.mpr rfl), rfl, ?_⟩⟩
    refine ⟨_, rfl, rfl, fun a4 G4 s4 _ ⟨d4, y4, z4⟩ => ⟨a4, EE 16, d4, _, v, rfl, y4, z4, X 16 (by decide), (L.err 16 (by decide)).na _ (List.mem_singleton.mpr rfl), rfl, ?_⟩⟩
    have s14 := ((s1.trans s2).trans s3).trans s4
    refine ⟨_, rfl, q, _, 0, .ref b1, rfl, rfl, SqL.of (s14 _ _ eq), rfl, b1, EE 15, db1, _, v, rfl, s14 _ _ u1, s14 _ _ w1, X 15 (by decide), (L.err 15 (by decide)).na "line" (List.mem_cons_self ..), rfl, ?_⟩
    refine ⟨_, rfl, q, _, 0, .ref b1, rfl, rfl, SqL.of (s14 _ _ eq), rfl, b1, EE 15, db1, _, .non, rfl, s14 _ _ u1, s14 _ _ w1, X 15 (by decide), (L.err 15 (by decide)).na "word" (List.mem_cons_of_mem _ (List.mem_cons_self ..)), rfl, ?_⟩
    refine ⟨_, rfl, q, _, 1, .ref b2, rfl, rfl, SqL.of (s14 _ _ eq), rfl, b2, EE 17, db2, _, .str (Str.ofString "rows"), rfl, s14 _ _ u2, s14 _ _ w2, X 17 (by decide), (L.err 17 (by decide)).na "what" (List.mem_cons_self ..), rfl, ?_⟩
    refine ⟨_, rfl, q, _, 1, .ref b2, rfl, rfl, SqL.of (s14 _ _ eq), rfl, b2, EE 17, db2, _, v, rfl, s14 _ _ u2, s14 _ _ w2, X 17 (by decide), (L.err 17 (by decide)).na "most" (List.mem_cons_of_mem _ (List.mem_cons_self ..)), rfl, ?_⟩
    exact ⟨by show 8 ≤ sizeLine; decide, fun t ht => ⟨t, ⟨_, _, _, _, _, _, _, _, _, _, _, _, rfl⟩, dp_same (s14.trans (same_upd ht)) hv, upd_same⟩⟩
  clear hv eq u1 w1 u2 w2
  rintro _ H6 ⟨t, ⟨o4, o5, o6, o7, o8, o9, o10, o11, o12, o13, o14, o15, rfl⟩, hv, et⟩
  have fit : RV 4 (.list [x, x, x, x, x, .none, .str (Str.ofString "rows"), x]) := .list (by show 8 ≤ 20; decide) fun y hy => by
    simp only [List.mem_cons, List.not_mem_nil, or_false] at hy
    rcases hy with rfl | rfl | rfl | rfl | rfl | rfl | rfl | rfl <;> first | exact rv_lv hx | exact rv_atom rfl | exact rv_rows
  obtain ⟨ga, gb, gc⟩ := rv_fits fit (by omega)
  have all8 : ∀ {Hx : Hp}, Dp K Hx v x → DpAll K Hx [v, v, v, v, v, .non, .str (Str.ofString "rows"), v] [x, x, x, x, x, .none, .str (Str.ofString "rows"), x] := fun h => .cons h (.cons h (.cons h (.cons h (.cons h (.cons .non (.cons (.str _) (.cons h .nil)))))))
  refine ⟨_, rfl, t, .list [x, x, x, x, x, .none, .str (Str.ofString "rows"), x], rfl, .lst (SqL.of et) (all8 hv), ga, gb, gc, ?_⟩
  refine ⟨_, rfl, by show 1 ≤ sizeLine; decide, fun r1 hr1 => ⟨r1, 5, [v], rfl, rfl, upd_same, by decide, by decide, by show 1 * 5 ≤ sizeLine; decide, fun r2 hr2 => ?_⟩⟩
  refine ⟨_, rfl, by show 3 ≤ sizeLine; decide, fun r3 hr3 => ?_⟩
  refine ⟨r2, r3, _, _, rfl, rfl, same_upd hr3 _ _ upd_same, upd_same, by show 5 + 3 ≤ sizeLine; decide, fun r4 hr4 => ?_⟩
  refine ⟨r4, .list [x, x, x, x, x, .none, .str (Str.ofString "rows"), x], rfl, .lst (SqL.of upd_same) (all8 (dp_same ((((same_upd hr1).trans (same_upd hr2)).trans (same_upd hr3)).trans (same_upd hr4)) hv)), ga, gb, gc, rfl, ?_⟩
  rw [decide_eq_true rfl]
  exact k _
end
end K8
set_option Elab.async false
set_option linter.all false
set_option maxRecDepth 100000
set_option maxHeartbeats 4000000
namespace K8
open PySem PySem.Spec PyProof.Rows L2
/-! ### facts of the top, as truths that a part of the heap tells -/
abbrev Fg : Type := PySem.W.Frag
def oo (a b : Option (Option Value)) : Bool := decide (a = b)
theorem oo_ok {a b : Option (Option Value)} (h : oo a b = true) : a = b := of_decide_eq_true h
def ob' (a b : Option Bool) : Bool := decide (a = b)
theorem ob_ok {a b : Option Bool} (h : ob' a b = true) : a = b := of_decide_eq_true h
theorem b2 {a b : Bool} (h : (a && b) = true) : a = true ∧ b = true := Bool.and_eq_true_iff.mp h
/-- the class of the word x, its method m -/
abbrev cA (K : Fg) (x : Str) : Addr := He.ga K x
abbrev mA (K : Fg) (x m : Str) : Addr := He.ma K (He.ga K x) m
/-- a constant of a class -/
def conB (K : Fg) (C : Addr) (f : Str) (v : V) : Bool := (match PySem.W.findIn K (.ref C) f with
  | some (some u) => He.relB v u && oo (PySem.W.specialIn K u "__get__") (some none)
  | _ => false) && !(PySem.W.copiedNames.contains f)
theorem conB_ok {K : Fg} {C : Addr} {f : Str} {v : V} (h : conB K C f v = true) : ∃ u, Con K C f v u := by
  obtain ⟨h1, h2⟩ := b2 h
  cases e : PySem.W.findIn K (.ref C) f with
  | none => rw [e] at h1; cases h1
  | some r =>
    rw [e] at h1
    cases r with
    | none => cases h1
    | some u =>
      obtain ⟨h3, h4⟩ := b2 (show (He.relB v u && oo (PySem.W.specialIn K u "__get__") (some none)) = true from h1)
      exact ⟨u, e, He.relB_ok h3, oo_ok h4, by simpa using h2⟩
/-- what all of them share -/
def genB (K : Fg) : Bool := oo (PySem.W.nsIn K mainGlobals "super") (some none) && (oo (PySem.W.nsIn K cStatics "thirdparty.any") (some none) && (oo (PySem.W.specialIn K (.builtin "object.__class__") "__get__") (some (some (.builtin "getset_descriptor.__get__"))) &&
  (ob' (PySem.W.takesIn K (.builtin "object.__class__")) (some true) && (decide (PySem.W.typeIn K (.ref (mA K "Paper" "__init__")) = some (.type "function")) && (PySem.W.fnIn K (mA K "Paper" "__init__") &&
  (ob' (PySem.W.kitOne K (.type "list") (.ref (cA K "Paper"))) (some false) && (ob' (PySem.W.kitOne K (.type "int") (.ref (cA K "Paper"))) (some false) && ((["Paper", "Denial", "CrowdError", "fixed", "is_like", "_law_pen", "_law_draw", "_law_pick", "_law_value", "_law_fixed", "_law_made", "_law_told", "law"] : List Str).all (fun x => (He.Fa.glo x).ok K) &&
  (["isinstance", "list", "tuple", "len", "all", "zip", "bool", "int", "abs", "repr", "range", "ValueError"] : List Str).all (fun x => (He.Fa.free x).ok K) &&
  (PySem.W.isFn K (.ref (mA K "Paper" "__eq__")) && PySem.W.isFn K (.ref (mA K "Paper" "__bool__")))))))))))
/-- a class under Paper -/
def papB (K : Fg) (i : Nat) : Bool := (He.Fa.cls (clOf i)).ok K && ((He.Fa.noat (clOf i) "own_parts").ok K && ((flOf i).all (fun y => (He.Fa.noat (clOf i) y).ok K) && ((He.Fa.mkr (clOf i)).ok K && ((He.Fa.glo (clOf i)).ok K && (conB K (cA K (clOf i)) "WORD" (.str (nmOf i)) && (conB K (cA K (clOf i)) "IS_TRUE" (.bl (trOf i)) &&
  (oo (PySem.W.findIn K (.ref (cA K (clOf i))) "__class__") (some (some (.builtin "object.__class__"))) && (ob' (PySem.W.mroIn K (cA K (clOf i)) (.type "object")) (some true) && (ob' (PySem.W.kitOne K (.ref (cA K (clOf i))) (.ref (cA K "Paper"))) (some true) && (ob' (PySem.W.mroIn K (cA K (clOf i)) (.ref (cA K (clOf i)))) (some true) &&
  (oo (PySem.W.ks_superIn K (cA K (clOf i)) (cA K (clOf i)) "__init__") (some (some (.ref (mA K "Paper" "__init__")))) && (oo (PySem.W.findIn K (.ref (cA K (clOf i))) "__eq__") (some (some (.ref (mA K "Paper" "__eq__")))) && (oo (PySem.W.findIn K (.ref (cA K (clOf i))) "__bool__") (some (some (.ref (mA K "Paper" "__bool__")))) &&
  (oo (PySem.W.findIn K (.ref (cA K (clOf i))) "__ne__") (some (some (.builtin "object.__ne__"))) && (PySem.W.notFirst K (cA K (clOf i)) (.type "list") && (PySem.W.notFirst K (cA K (clOf i)) (.type "int") && (ob' (PySem.W.kitOne K (.ref (cA K (clOf i))) (.ref (cA K "Denial"))) (some (!trOf i)) &&
  (List.range 11).all (fun j => PySem.W.notFirst K (cA K (clOf i)) (.ref (cA K (clOf j)))))))))))))))))))))
/-- an error class -/
def oexB (K : Fg) (C : Addr) : Bool := match K.lookup C with
  | some ⟨.type "type", _, .cls cd, sl⟩ => (match cd.mro, sl.toList with
    | .ref C' :: bm, [_, _, _, _, some (.builtin n), _] => decide (C' = C) && (decide (n = "ValueError.__new__") && (!cd.hasDel && (cd.hasDict && PySem.HandSPX.refsVE bm)))
    | _, _ => false)
  | _ => false
theorem oexB_ok {K : Fg} {C : Addr} (q : oexB K C = true) : ∃ nm q N bs bm sn sub ab col dd k0 k1 k2 k3 k5, K.lookup C = some (excClassObj nm q C N bs bm true sn sub ab col dd k0 k1 k2 k3 k5 "ValueError.__new__") ∧ PySem.HandSPX.refsVE bm = true := by
  unfold oexB at q
  split at q
  · rename_i od cd sl ho
    split at q
    · rename_i C' bm k0 k1 k2 k3 n k5 hm hs
      obtain ⟨q1, q⟩ := b2 q
      obtain ⟨q2, q⟩ := b2 q
      obtain ⟨q3, q⟩ := b2 q
      obtain ⟨q4, q5⟩ := b2 q
      have e1 : C' = C := of_decide_eq_true q1
      have e2 : n = "ValueError.__new__" := of_decide_eq_true q2
      subst e1 e2
      obtain ⟨nm, bs, mro, ns, qn, hd, sn, sub, ab, col, del⟩ := cd
      have q3' : del = false := by simpa using q3
      have q4' : hd = true := q4
      have hm' : mro = .ref C' :: bm := hm
      subst q3' q4' hm'
      obtain ⟨l⟩ := sl
      have hs' : l = [k0, k1, k2, k3, some (.builtin "ValueError.__new__"), k5] := hs
      subst hs'
      exact ⟨nm, qn, ns, bs, bm, sn, sub, ab, col, od, k0, k1, k2, k3, k5, ho, q5⟩
    · cases q
  · cases q
def errB (K : Fg) (i : Nat) : Bool := oexB K (cA K (enOf i)) && (oo (PySem.W.findIn K (.ref (cA K (enOf i))) "__setattr__") (some (some (.builtin "object.__setattr__"))) && (ob' (PySem.W.subIn K (.ref (cA K (enOf i))) (.type "BaseException")) (some true) && (decide (PySem.W.typeIn K (.ref (cA K (enOf i))) = some (.type "type")) &&
  (PySem.W.keepIn K (.ref (cA K (enOf i))) && (xfB K (cA K (enOf i)) && (oo (PySem.W.findIn K (.ref (cA K (enOf i))) "__class__") (some (some (.builtin "object.__class__"))) && (ob' (PySem.W.mroIn K (cA K (enOf i)) (.type "object")) (some true) && ((efOf i).all (fun y => oo (PySem.W.findIn K (.ref (cA K (enOf i))) y) (some none)) &&
  ((He.Fa.glo (enOf i)).ok K && (oo (PySem.W.findIn K (.ref (cA K (enOf i))) "__init__") (some (some (.ref (mA K (enOf i) "__init__")))) && (decide (PySem.W.typeIn K (.ref (mA K (enOf i) "__init__")) = some (.type "function")) && (ob' (PySem.W.kitOne K (.ref (cA K (enOf i))) (.ref (cA K "CrowdError"))) (some true) &&
  (ob' (PySem.W.kitOne K (.ref (cA K (enOf i))) (.type "ValueError")) (some true) && (ob' (PySem.W.mroIn K (cA K (enOf i)) (.ref (cA K (enOf i)))) (some true) && (oo (PySem.W.ks_superIn K (cA K (enOf i)) (cA K (enOf i)) "__init__") (some (some (.builtin "ValueError.__init__"))) && ob' (PySem.W.subIn K (.ref (cA K (enOf i))) (.type "ValueError")) (some true))))))))))))))))
/-! ### methods that speak of super() -/
structure SupD where
  cls : Str
  qual : Str
  params : Arguments
  body : List Stmt
  scope : Scope
def codeFileB (K : Fg) (c : Addr) (file : Str) : Bool := match K.lookup c with
  | some ⟨_, _, .fields vs, _⟩ => (match (vs[2]? : Option Value) with
    | some (Value.str x _) => file == x
    | _ => false)
  | _ => false
def cellB (K : Fg) (c D : Addr) : Bool := match K.lookup c with
  | some ⟨_, _, .cell (some (.ref a)), _⟩ => decide (a = D)
  | _ => false
def supIn (file : Str) (K : Fg) (qual : Str) (D : Addr) (code : Value) (cl : List (Str × Addr)) (dV : Value) : Bool := match code, cl, dV with
  | .ref c, [(_, cc)], .none => PySem.W.codeIn K (.ref c) qual && (codeFileB K c file && cellB K cc D)
  | _, _, _ => false
def supB (file : Str) (K : Fg) (d : SupD) : Bool := PySem.W.keepIn K (.ref (mA K d.cls "__init__")) && ((PySem.W.clsIn K (cA K d.cls)).isSome && (match K.lookup (mA K d.cls "__init__") with
  | some ⟨_, _, .func fd, _⟩ => supIn file K d.qual (cA K d.cls) fd.code fd.closure fd.defaults
  | _ => false))
abbrev FnY : Type := Option (Str × Str × Arguments × FuncBody × Scope × Addr × List Str × Addr)
def supV (K : Fg) (d : SupD) : FnY := match K.lookup (mA K d.cls "__init__") with
  | some ⟨_, _, .func fd, _⟩ => some (fd.name, fd.qualname, fd.params, fd.body, fd.scope, fd.globals, fd.closure.map (·.1), fd.builtins)
  | _ => none
def SupD.val (d : SupD) : FnY := some ("__init__", d.qual, d.params, .stmts d.body, d.scope, mainGlobals, ["__class__"], builtinsNs)
theorem supB_ok {P : Program} {K : Fg} {d : SupD} (h : supB P.main.file K d = true) (e : supV K d = d.val) (gs : PySem.W.nsIn K mainGlobals "super" = some none) (gt : PySem.W.nsIn K cStatics "thirdparty.any" = some none) :
    ∃ cc cda fd, SupF P K (mA K d.cls "__init__") "__init__" d.qual d.params d.body d.scope cc cda (cA K d.cls) fd := by
  obtain ⟨kp, h⟩ := b2 h
  obtain ⟨hc, h⟩ := b2 h
  unfold supV at e
  cases q : K.lookup (mA K d.cls "__init__") with
  | none => rw [q] at h; cases h
  | some o =>
    obtain ⟨oc, od, dt, osl⟩ := o
    rw [q] at h e
    cases dt with
    | func fd =>
      obtain ⟨n1, n2, n3, n4, n5, n6, n7, n8, n9, n10, n11, n12, n13, n14, n15⟩ := fd
      have e2 : (some (n1, n2, n3, n4, n5, n6, n7.map (·.1), n15) : FnY) = some (("__init__" : Str), d.qual, d.params, FuncBody.stmts d.body, d.scope, mainGlobals, [("__class__" : Str)], builtinsNs) := e
      simp only [Option.some.injEq, Prod.mk.injEq] at e2
      obtain ⟨h1, h2, h3, h4, h5, h6, h7, h8⟩ := e2
      have h' : supIn P.main.file K d.qual (cA K d.cls) n13 n7 n8 = true := h
      unfold supIn at h'
      split at h'
      · rename_i c y cc
        obtain ⟨a1, h'⟩ := b2 h'
        obtain ⟨a2, a3⟩ := b2 h'
        have hy : y = "__class__" := by
          have h7' : [y] = [("__class__" : Str)] := h7
          exact (List.cons.inj h7').1
        subst h1 h2 h3 h4 h5 h6 h8 hy
        refine ⟨cc, c, _, ⟨oc, od, osl, n9, n10, n11, n12, n14, rfl, q⟩, ?_, a1, ?_, kp, ?_, gs, gt⟩
        · unfold codeFileB at a2
          split at a2
          · rename_i ccl cdd vs ccs hl
            split at a2
            · rename_i x tf hv
              exact ⟨ccl, cdd, vs, ccs, x, tf, hl, hv, a2⟩
            · cases a2
          · cases a2
        · unfold cellB at a3
          split at a3
          · rename_i cl cld a csl hl
            have ea := of_decide_eq_true a3
            subst ea
            exact ⟨cl, cld, csl, hl⟩
          · cases a3
        · cases z : PySem.W.clsIn K (cA K d.cls) with
          | none => rw [z] at hc; cases hc
          | some cd => exact ⟨cd, rfl⟩
      · cases h'
    | _ => cases h
end K8
set_option Elab.async false
set_option linter.all false
set_option maxRecDepth 100000
set_option maxHeartbeats 4000000
namespace K8
open PySem PySem.Spec PyProof.Rows L2
/-! ### the head -/
def dfn : List He.DefD := [⟨("fixed", none), "fixed", "fixed", defArgs sFixed, defBody sFixed, defScope sFixed, [], []⟩,
  ⟨("is_like", none), "is_like", "is_like", defArgs sLike, defBody sLike, defScope sLike, [], []⟩,
  ⟨("_law_pen", none), "_law_pen", "_law_pen", defArgs sPen, defBody sPen, defScope sPen, [], []⟩,
  ⟨("_law_draw", none), "_law_draw", "_law_draw", defArgs sDraw, defBody sDraw, defScope sDraw, [], []⟩,
  ⟨("_law_pick", none), "_law_pick", "_law_pick", defArgs sPick, defBody sPick, defScope sPick, [], []⟩,
  ⟨("_law_value", none), "_law_value", "_law_value", defArgs sValue, defBody sValue, defScope sValue, [], []⟩,
  ⟨("_law_fixed", none), "_law_fixed", "_law_fixed", defArgs sLFixed, defBody sLFixed, defScope sLFixed, [], []⟩,
  ⟨("_law_made", none), "_law_made", "_law_made", defArgs sMade, defBody sMade, defScope sMade, [], []⟩,
  ⟨("_law_told", none), "_law_told", "_law_told", defArgs sTold, defBody sTold, defScope sTold, [], []⟩,
  ⟨("law", none), "law", "law", defArgs sLaw, defBody sLaw, defScope sLaw, [], []⟩,
  ⟨("Paper", some "__init__"), "__init__", "Paper.__init__", defArgs sPInit, defBody sPInit, defScope sPInit, [], []⟩,
  ⟨("Paper", some "__eq__"), "__eq__", "Paper.__eq__", defArgs sPEq, defBody sPEq, defScope sPEq, [], []⟩,
  ⟨("Paper", some "__bool__"), "__bool__", "Paper.__bool__", defArgs sPBool, defBody sPBool, defScope sPBool, [], []⟩]
def sups : List SupD := [⟨"Exactly", "Exactly.__init__", defArgs sI26, defBody sI26, defScope sI26⟩,
  ⟨"Slow", "Slow.__init__", defArgs sI36, defBody sI36, defScope sI36⟩,
  ⟨"Loose", "Loose.__init__", defArgs sI37, defBody sI37, defScope sI37⟩,
  ⟨"Best", "Best.__init__", defArgs sI33, defBody sI33, defScope sI33⟩,
  ⟨"Wall", "Wall.__init__", defArgs sI31, defBody sI31, defScope sI31⟩,
  ⟨"Plan", "Plan.__init__", defArgs sI30, defBody sI30, defScope sI30⟩,
  ⟨"Bare", "Bare.__init__", defArgs sI32, defBody sI32, defScope sI32⟩,
  ⟨"Keeps", "Keeps.__init__", defArgs sI35, defBody sI35, defScope sI35⟩,
  ⟨"Right", "Right.__init__", defArgs sI39, defBody sI39, defScope sI39⟩,
  ⟨"Barred", "Barred.__init__", defArgs sI28, defBody sI28, defScope sI28⟩,
  ⟨"Unbounded", "Unbounded.__init__", defArgs sI27, defBody sI27, defScope sI27⟩,
  ⟨"BadTable", "BadTable.__init__", defArgs sE2, defBody sE2, defScope sE2⟩,
  ⟨"BadWorld", "BadWorld.__init__", defArgs sE3, defBody sE3, defScope sE3⟩,
  ⟨"BadAsk", "BadAsk.__init__", defArgs sE4, defBody sE4, defScope sE4⟩,
  ⟨"BadSheet", "BadSheet.__init__", defArgs sE5, defBody sE5, defScope sE5⟩,
  ⟨"BadSplit", "BadSplit.__init__", defArgs sE6, defBody sE6, defScope sE6⟩,
  ⟨"BadProgram", "BadProgram.__init__", defArgs sE7, defBody sE7, defScope sE7⟩,
  ⟨"BadBranch", "BadBranch.__init__", defArgs sE8, defBody sE8, defScope sE8⟩,
  ⟨"BadCode", "BadCode.__init__", defArgs sE9, defBody sE9, defScope sE9⟩,
  ⟨"BadPaper", "BadPaper.__init__", defArgs sE10, defBody sE10, defScope sE10⟩,
  ⟨"BadOrder", "BadOrder.__init__", defArgs sE11, defBody sE11, defScope sE11⟩,
  ⟨"BadLot", "BadLot.__init__", defArgs sE12, defBody sE12, defScope sE12⟩,
  ⟨"BadNumber", "BadNumber.__init__", defArgs sE13, defBody sE13, defScope sE13⟩,
  ⟨"BadQuestion", "BadQuestion.__init__", defArgs sE14, defBody sE14, defScope sE14⟩,
  ⟨"Misfit", "Misfit.__init__", defArgs sE15, defBody sE15, defScope sE15⟩,
  ⟨"Nothing", "Nothing.__init__", defArgs sE16, defBody sE16, defScope sE16⟩,
  ⟨"BadText", "BadText.__init__", defArgs sE17, defBody sE17, defScope sE17⟩,
  ⟨"BadLine", "BadLine.__init__", defArgs sE18, defBody sE18, defScope sE18⟩,
  ⟨"TooMany", "TooMany.__init__", defArgs sE19, defBody sE19, defScope sE19⟩]
abbrev PR : Program := PySem.Challenge.pw_crowdsplit_k88_papers_are_values_of_thei
def okB (K : Fg) : Bool := genB K && ((List.range 11).all (papB K) && ((List.range 18).all (errB K) && (sups.all (supB PR.main.file K) && dfn.all fun d => d.ok K)))
abbrev AlX : Type := Bool × List He.FnW × List FnY
def obsX (K : Fg) : AlX := (okB K, dfn.map fun d => He.fnW K d.at_, sups.map (supV K))
def valX : AlX := (true, dfn.map He.DefD.val, sups.map SupD.val)
def asX (g : Addr → Option Obj) : List Addr := cStatics :: He.asD g 5
def hk : PySem.W.Hook where
  α := AlX
  obs := fun s => obsX (He.frG s.heap.get? (asX s.heap.get?))
  val := fun _ => valX
  says := fun _ h => ∃ K : Fg, K.In h ∧ obsX K = valX
  of := fun _ _ e => ⟨_, He.frG_in, e⟩
  keeps := fun _ _ _ ⟨K, hK, c⟩ k => ⟨K, PySem.W.Frag.In.keeps hK k, c⟩
def obT (s : PySem.W.SharedT) : AlX := obsX (He.frG (HandSHeadRun.getT s) (asX (HandSHeadRun.getT s)))
theorem obT_eq (s : PySem.W.SharedT) : obT s = hk.obs s.abs := by
  have e : HandSHeadRun.getT s = s.abs.heap.get? := funext (HandSHeadRun.getT_eq s)
  unfold obT
  rw [e] <;> rfl
def loose1 : List Str := ["CrowdError", "BadTable", "BadWorld", "BadAsk", "BadSheet", "BadSplit", "BadProgram", "BadBranch", "BadCode", "BadPaper", "BadOrder", "BadLot", "BadNumber", "BadQuestion", "Misfit", "Nothing", "BadText", "BadLine", "TooMany", "fixed", "is_like"]
def loose2 : List Str := ["Paper", "Denial", "Exactly", "Slow", "Loose", "Best", "Wall", "Plan", "Bare", "Keeps", "Right", "Barred", "Unbounded", "_law_pen", "_law_draw", "_law_pick", "_law_value", "_law_fixed", "_law_made", "_law_told"]
def looseX : List Str := loose1 ++ loose2
abbrev RO : PySem.W.OpenRow := PySem.W.OpenLaw.row PySem.Challenge.rw_crowdsplit_k88_papers_are_values_of_thei
theorem run (w : World) : HandSHeadRun.RunEq RO (PySem.W.view RO.prog [48]) hk obT 12000 looseX w := by
  intro os
  kernel_rfl
end K8
set_option Elab.async false
set_option linter.all false
set_option maxRecDepth 100000
set_option maxHeartbeats 4000000
namespace K8
open PySem PySem.Spec PyProof.Rows L2
/-! ### the law's own call: repr asks that no text is being told, so the caller is named -/
section
variable {P : Program} {w : World} {K : PySem.W.Frag} {mg : Str → Option Value} {base : Heap} {f : Addr}
/-- a def of the text at one caller A -/
theorem run_at {x qual : Str} {params : Arguments} {body : List Stmt} {scope : Scope} {fd : FuncData} {N ps : List Str} {k : Nat} {A : Around} (F : FunD K x qual params body scope [] [] f fd) (S : FnScope N ps scope) (hr : Room (k + 1) A) {outer : List Env} {s : Shared} {H : Hp} {us : List Value} {vs : List V} {Q : VK} {E : XK}
    (e0 : Env0 P w K mg base A outer s H) (hb : BindsTo s fd ⟨us, []⟩ (ps.zip us)) (r : Vals vs us) (hl : vs.length = ps.length)
    (go : ∀ cdv : Value, ∃ t, PSs (cxOf CX0 P w K mg base N qual scope f cdv A outer s H E) body t ∧ t { nx := fun _ H' => Q .non H', rt := Q } (start N vs) H) :
    codeAny (model P w) A (.call (.ref f) ⟨us, []⟩) (CR CX0 outer P w H s Q E) s := by
  obtain ⟨oc, od, dV, kV, doc, pm, an, cdv, ct, osl, rfl, lk, hcd, _, _⟩ := F.ex
  have kin : K.In s.heap := e0.mod.kin.keeps fun b o z => (e0.bs b o z).1
  have nol : s.heap.NoLimit := e0.mod.nolimit.keeps fun b o z => (e0.bs b o z).1
  refine codeAny_call_function hr.depth (kin _ _ lk) rfl S.co S.gen rfl (PySem.W.codeRec_of kin hcd) (hb _ _ _ _ ?_)
  refine wpAny_newFunctionEnv_cells S.kind (fun y hy => ?_) fun env he s1 z => ?_
  · rcases S.par y.1 (List.of_mem_zip (show (y.1, y.2) ∈ ps.zip us from hy)).1 with g | g
    · exact .inl g
    · exact .inr ⟨g, PySem.W.cellsFrom_some _ _ _ (.inl g)⟩
  subst he
  refine ⟨nol.keeps z.toInCall.keep, codeAny_func ?_⟩
  obtain ⟨t, ht, hq⟩ := go cdv
  have J0 : Inv (cxOf CX0 P w K mg base N qual scope f cdv A outer s H E) [] (start N vs) H s1 := inv_start S hr.hd e0 hl r z
  refine wpAny_mono (ht.run [] s1 (start N vs) H _ J0 hq) (fun fl s' hs => ?_) fun _ _ hs => hs
  cases fl with
  | ret u =>
    obtain ⟨v, σ', H', J, rv, q⟩ := hs
    exact ⟨v, H', J.os, J.bare, J.base, J.hok, rv, q⟩
  | next =>
    obtain ⟨σ', H', J, q⟩ := hs
    exact ⟨V.non, H', J.os, J.bare, J.base, J.hok, rfl, q⟩
  | brk =>
    obtain ⟨_, _, _, q⟩ := hs
    exact q.elim
  | cont =>
    obtain ⟨_, _, _, q⟩ := hs
    exact q.elim
/-- where a law starts: nothing is tracked but the script -/
def scriptH (K : PySem.W.Frag) (a : Addr) (vs : List Value) (ns : List Int) : Hp := match K.lookup a with
  | some _ => fun _ => none
  | none => fun b => if b = a then some (.frz { cls := .type "list", data := .seq vs.toArray } (.lst (ns.map V.int))) else none
theorem scriptH_none {a b : Addr} {vs : List Value} {ns : List Int} (h : b ≠ a) : scriptH K a vs ns b = none := by
  unfold scriptH
  cases K.lookup a with
  | some o => rfl
  | none => exact if_neg h
theorem scriptH_K {a : Addr} {vs : List Value} {ns : List Int} {o : Obj} (h : K.lookup a = some o) : scriptH K a vs ns = fun _ => none := by
  unfold scriptH
  rw [h]
theorem scriptH_at {a : Addr} {vs : List Value} {ns : List Int} (h : K.lookup a = none) : scriptH K a vs ns a = some (.frz { cls := .type "list", data := .seq vs.toArray } (.lst (ns.map V.int))) := by
  unfold scriptH
  rw [h]
  exact if_pos rfl
theorem law_at {s1 : Shared} {a : Addr} {fd : FuncData} {vs : List Value} {ns : List Int} {mb : Str → Option Value} {N : List Str} {k : Nat} {qual : Str} {params : Arguments} {body : List Stmt} {scope : Scope} {x : Str} (F : FunD K qual qual params body scope [] [] f fd) (S : FnScope N [x] scope) (hr : Room (k + 1) callerA)
    (hb : ∀ (s : Shared) (u : Value), BindsTo s fd ⟨[u], []⟩ [(x, u)])
    (kin : K.In s1.heap) (nsM : s1.heap.Ns mainGlobals mg) (nsB : s1.heap.Ns builtinsNs mb) (bOk : ∀ y : Str, y ≠ "__name__" → mb y = bootBuiltins y) (nol : s1.heap.NoLimit) (gen0 : s1.gens = #[])
    (at_ : s1.heap.get? a = some { cls := .type "list", data := .seq vs.toArray }) (hints : IntsAre vs ns) (small : ns.length ≤ sizeLine)
    (go : ∀ (base : Heap) (H : Hp) (cdv : Value), SqL K H a (ns.map V.int) → K.In base → base.Ns mainGlobals mg → ∃ t, PSs (cxOf CX0 P w K mg base N qual scope f cdv callerA [] s1 H E0) body t ∧ t { nx := fun _ H' => (fun v (_ : Hp) => v = V.bl true) .non H', rt := fun v _ => v = .bl true } (start N [.ref a]) H) :
    codeAny (model P w) callerA (.call (.ref f) ⟨[.ref a], []⟩) (fun r s' => r = .ok (.ret (.bool true)) ∧ OldK s1.heap s'.heap ∧ s'.os = s1.os ∧ AllBare s'.gens) s1 := by
  have rv := vals_ints hints
  have lv := hints.length
  have off : ∀ {b : Addr}, scriptH K a vs ns b ≠ none → b = a ∧ K.lookup a = none := fun {b} h => by
    refine ⟨Classical.byContradiction fun z => h (scriptH_none z), ?_⟩
    cases e : K.lookup a with
    | none => rfl
    | some o => rw [scriptH_K e] at h; exact absurd rfl h
  have hid : ∀ {b : Addr} {o : Obj}, s1.heap.get? b = some o → scriptH K a vs ns b = none → (hidT s1.heap (scriptH K a vs ns)).get? b = some o := fun z n => hidT_get z n
  have dictOff : ∀ {b : Addr} {o : Obj} {es : Array DictEntry} {ep : Nat}, s1.heap.get? b = some o → o.data = .dict es ep → scriptH K a vs ns b = none := fun {b o es ep} z d => by
    refine Classical.byContradiction fun h => ?_
    obtain ⟨rfl, _⟩ := off h
    rw [at_] at z
    cases z
    cases d
  have nsOff : ∀ {b : Addr} {m : Str → Option Value}, s1.heap.Ns b m → (hidT s1.heap (scriptH K a vs ns)).Ns b m := fun ⟨o, es, ep, z, d, q⟩ => ⟨o, es, ep, hid z (dictOff z d), d, q⟩
  have kinOff : K.In (hidT s1.heap (scriptH K a vs ns)) := fun b o z => hid (kin b o z) (Classical.byContradiction fun h => by
    obtain ⟨rfl, n⟩ := off h
    rw [n] at z
    cases z)
  have M : Mod K mg (hidT s1.heap (scriptH K a vs ns)) := ⟨kinOff, nsOff nsM, ⟨mb, nsOff nsB, bOk⟩, let ⟨mc, h1, h2⟩ := nol; ⟨mc, nsOff h1, h2⟩⟩
  have lst : SqL K (scriptH K a vs ns) a (ns.map V.int) := by
    cases e : K.lookup a with
    | some o =>
      have z := kin a o e
      rw [at_] at z
      cases z
      exact .inr ⟨_, vs.toArray, _, e, rfl, rfl, rfl, by rw [List.size_toArray, lv]; exact small, by simpa using rv⟩
    | none => exact .inl (.inr ⟨_, scriptH_at e⟩)
  have ok : HOk P w (scriptH K a vs ns) s1.heap := fun b u z => by
    obtain ⟨rfl, n⟩ := off (b := b) (by rw [z]; exact fun q => by cases q)
    rw [scriptH_at n] at z
    cases z
    exact ⟨at_, by rw [List.length_map]; exact small, vs, _, rv, at_⟩
  have e0 : Env0 P w K mg (hidT s1.heap (scriptH K a vs ns)) callerA [] s1 (scriptH K a vs ns) := ⟨rfl, M, fun b o z => of_hidT z, Nat.le_of_eq (hidT_size _ _), trivial, fun b hb' => absurd (show b ∈ ([] : List Addr) from hb') (by simp), ok, .of_eq gen0⟩
  refine codeAny_mono (run_at (Q := fun v _ => v = .bl true) (E := E0) F S hr e0 (hb s1 (.ref a)) (show Vals [V.ref a] [Value.ref a] from .cons rfl .nil) rfl fun cdv => go _ _ cdv lst kinOff (nsOff nsM)) fun r s' h => ?_
  cases r with
  | error e => exact h.elim
  | ok fl =>
    cases fl with
    | next => exact False.elim h
    | brk => exact False.elim h
    | cont => exact False.elim h
    | ret u =>
      obtain ⟨v, H', os, bare, un, ok', rvu, q⟩ := h
      have q' : v = .bl true := q
      subst q'
      obtain rfl : u = Value.bool true := rvu
      refine ⟨rfl, OldK.of_keep fun b o z => ?_, os, bare⟩
      cases hb2 : scriptH K a vs ns b with
      | none => exact un.keep b o z hb2 (by intro y; exact absurd (show b ∈ ([] : List Addr) from y) (by simp)) (by simp)
      | some u =>
        obtain ⟨rfl, n⟩ := off (b := b) (by rw [hb2]; exact fun q => by cases q)
        rw [scriptH_at n] at hb2
        cases hb2
        obtain ⟨y1, _⟩ := ok b _ (scriptH_at n)
        obtain ⟨y2, _⟩ := ok' b _ (un.frzs b _ _ (scriptH_at n))
        rw [z] at y1
        cases y1
        exact y2
end
end K8
set_option Elab.async false
set_option linter.all false
set_option maxRecDepth 100000
set_option maxHeartbeats 4000000
namespace K8
open PySem PySem.Spec PyProof.Rows L2
/-! ### from the head's facts to what the law leans on -/
theorem bindsTo_pure {s : Shared} {fd : FuncData} {args : Args} {b : List (Str × Value)} (h : bindArgs fd args = pure b) : BindsTo s fd args b := fun M _ _ _ q => by
  rw [h]
  exact wpAny_pure q
section
variable {P : Program} {w : World} {K : Fg} {mg : Str → Option Value} {base h : Heap}
theorem sub_binds {f cc cda D : Addr} {qual : Str} {params : Arguments} {body : List Stmt} {scope : Scope} {fd : FuncData} {ps : List Str} (T : SupF P K f "__init__" qual params body scope cc cda D fd)
    (g : ∀ (kV doc pm : Value) (an : Option Addr) (ct : Value) (us : List Value), us.length = ps.length → bindArgs (PySem.W.fnX "__init__" qual params body scope [("__class__", cc)] .none kV doc pm an (.ref cda) ct) ⟨us, []⟩ = pure (ps.zip us)) : Binds K fd ps [] := by
  obtain ⟨oc, od, osl, kV, doc, pm, an, ct, rfl, _⟩ := T.lk
  exact .all fun us hl => g kV doc pm an ct us hl
/-- one value by keyword -/
theorem sub_kbinds {f cc cda D : Addr} {qual : Str} {params : Arguments} {body : List Stmt} {scope : Scope} {fd : FuncData} {y : Str} (T : SupF P K f "__init__" qual params body scope cc cda D fd)
    (g : ∀ (kV doc pm : Value) (an : Option Addr) (ct u v : Value), bindArgs (PySem.W.fnX "__init__" qual params body scope [("__class__", cc)] .none kV doc pm an (.ref cda) ct) ⟨[u], [(y, v)]⟩ = pure [(("self" : Str), u), (y, v)]) :
    KBinds K fd [("self" : Str), y] [y] (fun us ws => if us.length = 1 ∧ ws.length = 1 then us ++ ws else []) (fun us ws => if us.length = 1 ∧ ws.length = 1 then us ++ ws else []) := by
  obtain ⟨oc, od, osl, kV, doc, pm, an, ct, rfl, _⟩ := T.lk
  refine ⟨fun s us ws _ hl => ?_, fun {vs us zs ws} r1 r2 => ?_⟩
  · by_cases c : us.length = 1 ∧ ws.length = 1
    · match us, ws, c with
      | [u], [v], _ => exact bindsTo_pure (g kV doc pm an ct u v)
    · have hl' : (if us.length = 1 ∧ ws.length = 1 then us ++ ws else []).length = 2 := hl
      rw [if_neg c] at hl'
      cases hl'
  · have l1 := r1.length
    have l2 := r2.length
    show Vals (if vs.length = 1 ∧ zs.length = 1 then vs ++ zs else []) (if us.length = 1 ∧ ws.length = 1 then us ++ ws else [])
    by_cases c : us.length = 1 ∧ ws.length = 1
    · rw [if_pos c, if_pos (by rw [l1, l2]; exact c)]
      exact r1.append r2
    · rw [if_neg c, if_neg (by rw [l1, l2]; exact c)]
      exact .nil
/-- the parts of what the head says -/
structure Said (K : Fg) : Prop where
  gen : genB K = true
  pap : ∀ i, i < 11 → papB K i = true
  err : ∀ i, i < 18 → errB K i = true
  sup : ∀ d ∈ sups, supB PR.main.file K d = true
  dfs : ∀ d ∈ dfn, d.ok K = true
  dv : dfn.map (fun d => He.fnW K d.at_) = dfn.map He.DefD.val
  sv : sups.map (supV K) = sups.map SupD.val
theorem said (c : obsX K = valX) : Said K := by
  have c1 : okB K = true := congrArg (fun z : AlX => z.1) c
  obtain ⟨a1, c1⟩ := b2 c1
  obtain ⟨a2, c1⟩ := b2 c1
  obtain ⟨a3, c1⟩ := b2 c1
  obtain ⟨a4, a5⟩ := b2 c1
  exact ⟨a1, fun i hi => List.all_eq_true.mp a2 i (List.mem_range.mpr hi), fun i hi => List.all_eq_true.mp a3 i (List.mem_range.mpr hi), fun d hd => List.all_eq_true.mp a4 d hd, fun d hd => List.all_eq_true.mp a5 d hd,
    congrArg (fun z : AlX => z.2.1) c, congrArg (fun z : AlX => z.2.2) c⟩
theorem Said.def_ (c : Said K) (i : Nat) {d : He.DefD} (h : dfn[i]? = some d) : ∃ fd, FunD K d.name d.qual d.params d.body d.scope (d.dvs K) (d.kws K) (He.fAd K d.at_) fd := by
  have e : (dfn.map fun d => He.fnW K d.at_)[i]? = (dfn.map He.DefD.val)[i]? := by rw [c.dv]
  rw [List.getElem?_map, List.getElem?_map, h] at e
  exact He.DefD.funD (Option.some.inj e) (c.dfs d (List.mem_of_getElem? h))
theorem Said.supF (c : Said K) (i : Nat) {d : SupD} (h : sups[i]? = some d) : ∃ cc cda fd, SupF PR K (mA K d.cls "__init__") "__init__" d.qual d.params d.body d.scope cc cda (cA K d.cls) fd := by
  have e : (sups.map (supV K))[i]? = (sups.map SupD.val)[i]? := by rw [c.sv]
  rw [List.getElem?_map, List.getElem?_map, h] at e
  obtain ⟨g1, g⟩ := b2 c.gen
  obtain ⟨g2, _⟩ := b2 g
  exact supB_ok (c.sup d (List.mem_of_getElem? h)) (Option.some.inj e) (oo_ok g1) (oo_ok g2)
end
theorem topS : (PR.main.scope.names.lookup ("super" : Str)).isSome = false := by kernel_rfl
section
variable {w : World} {K : Fg} {mg : Str → Option Value} {base h : Heap}
abbrev CCx (K : Fg) : Nat → Addr := fun i => cA K (clOf i)
abbrev EEx (K : Fg) : Nat → Addr := fun i => cA K (enOf i)
/-- a class under Paper -/
theorem pap_of (c : Said K) (KX : K.In h) (G : h.Ns mainGlobals mg) {i : Nat} (hi : i < 11) (mk : FnR PR w K mg base CX0 7 (mA K (clOf i) "__init__") (spSub K (CCx K i) (flOf i) 4)) : Pap PR w K mg base (cA K "Paper") i (CCx K i) := by
  obtain ⟨a1, p⟩ := b2 (c.pap i hi)
  obtain ⟨a2, p⟩ := b2 p
  obtain ⟨a3, p⟩ := b2 p
  obtain ⟨a4, p⟩ := b2 p
  obtain ⟨a5, p⟩ := b2 p
  obtain ⟨a6, p⟩ := b2 p
  obtain ⟨a7, p⟩ := b2 p
  obtain ⟨a8, p⟩ := b2 p
  obtain ⟨a9, p⟩ := b2 p
  obtain ⟨a10, p⟩ := b2 p
  obtain ⟨g1, g⟩ := b2 c.gen
  obtain ⟨g2, g⟩ := b2 g
  obtain ⟨g3, g⟩ := b2 g
  obtain ⟨g4, g⟩ := b2 g
  exact ⟨⟨He.cls_ok a1, He.noat_ok a2, conB_ok a6, conB_ok a7, oo_ok a8, oo_ok g3, ob_ok g4, ob_ok a9, ob_ok a10⟩, fun y hy => He.noat_ok (List.all_eq_true.mp a3 y hy), He.glo_ok KX G a5, _, He.mkr_ok a4, mk⟩
theorem sub_of (c : Said K) {i : Nat} (hi : i < 11) : SubC K (CCx K i) (mA K "Paper" "__init__") ∧ ∀ y ∈ flOf i, NoAttr K (CCx K i) y := by
  obtain ⟨a1, p⟩ := b2 (c.pap i hi)
  obtain ⟨a2, p⟩ := b2 p
  obtain ⟨a3, p⟩ := b2 p
  obtain ⟨a4, p⟩ := b2 p
  obtain ⟨a5, p⟩ := b2 p
  obtain ⟨a6, p⟩ := b2 p
  obtain ⟨a7, p⟩ := b2 p
  obtain ⟨a8, p⟩ := b2 p
  obtain ⟨a9, p⟩ := b2 p
  obtain ⟨a10, p⟩ := b2 p
  obtain ⟨a11, p⟩ := b2 p
  obtain ⟨a12, p⟩ := b2 p
  obtain ⟨g1, g⟩ := b2 c.gen
  obtain ⟨g2, g⟩ := b2 g
  obtain ⟨g3, g⟩ := b2 g
  obtain ⟨g4, g⟩ := b2 g
  obtain ⟨g5, g⟩ := b2 g
  obtain ⟨g6, g⟩ := b2 g
  exact ⟨⟨He.cls_ok a1, He.noat_ok a2, ob_ok a11, oo_ok a12, of_decide_eq_true g5, g6⟩, fun y hy => He.noat_ok (List.all_eq_true.mp a3 y hy)⟩
theorem more_of (c : Said K) {i : Nat} (hi : i < 11) : PySem.W.findIn K (.ref (CCx K i)) "__eq__" = some (some (.ref (mA K "Paper" "__eq__"))) ∧ PySem.W.findIn K (.ref (CCx K i)) "__bool__" = some (some (.ref (mA K "Paper" "__bool__"))) ∧ PySem.W.findIn K (.ref (CCx K i)) "__ne__" = some (some (.builtin "object.__ne__")) ∧
    PySem.W.notFirst K (CCx K i) (.type "list") = true ∧ PySem.W.notFirst K (CCx K i) (.type "int") = true ∧ PySem.W.kitOne K (.ref (CCx K i)) (.ref (cA K "Denial")) = some (!trOf i) ∧ ∀ j, j < 11 → PySem.W.notFirst K (CCx K i) (.ref (CCx K j)) = true := by
  obtain ⟨a1, p⟩ := b2 (c.pap i hi)
  obtain ⟨a2, p⟩ := b2 p
  obtain ⟨a3, p⟩ := b2 p
  obtain ⟨a4, p⟩ := b2 p
  obtain ⟨a5, p⟩ := b2 p
  obtain ⟨a6, p⟩ := b2 p
  obtain ⟨a7, p⟩ := b2 p
  obtain ⟨a8, p⟩ := b2 p
  obtain ⟨a9, p⟩ := b2 p
  obtain ⟨a10, p⟩ := b2 p
  obtain ⟨a11, p⟩ := b2 p
  obtain ⟨a12, p⟩ := b2 p
  obtain ⟨a13, p⟩ := b2 p
  obtain ⟨a14, p⟩ := b2 p
  obtain ⟨a15, p⟩ := b2 p
  obtain ⟨a16, p⟩ := b2 p
  obtain ⟨a17, p⟩ := b2 p
  obtain ⟨a18, a19⟩ := b2 p
  exact ⟨oo_ok a13, oo_ok a14, oo_ok a15, a16, a17, ob_ok a18, fun j hj => List.all_eq_true.mp a19 j (List.mem_range.mpr hj)⟩
/-- an error class -/
theorem err_of (c : Said K) (KX : K.In h) (G : h.Ns mainGlobals mg) {i : Nat} (hi : i < 18)
    (mk : ErrC K (EEx K i) → (∀ y ∈ efOf i, NoAttr K (EEx K i) y) → ∃ fd ps, FnOk PR w K mg base CX0 1 (mA K (enOf i) "__init__") fd ps (spErr (EEx K i) (efOf i)) ∧ ps = ("self" : Str) :: efOf i ∧ Binds K fd ps [] ∧
      (∀ y, efOf i = [y] → KBinds K fd ps [y] (fun us ws => if us.length = 1 ∧ ws.length = 1 then us ++ ws else []) (fun us ws => if us.length = 1 ∧ ws.length = 1 then us ++ ws else []))) : Err PR w K mg base (cA K "CrowdError") i (EEx K i) := by
  obtain ⟨a1, p⟩ := b2 (c.err i hi)
  obtain ⟨a2, p⟩ := b2 p
  obtain ⟨a3, p⟩ := b2 p
  obtain ⟨a4, p⟩ := b2 p
  obtain ⟨a5, p⟩ := b2 p
  obtain ⟨a6, p⟩ := b2 p
  obtain ⟨a7, p⟩ := b2 p
  obtain ⟨a8, p⟩ := b2 p
  obtain ⟨a9, p⟩ := b2 p
  obtain ⟨a10, p⟩ := b2 p
  obtain ⟨a11, p⟩ := b2 p
  obtain ⟨a12, p⟩ := b2 p
  obtain ⟨a13, p⟩ := b2 p
  obtain ⟨a14, p⟩ := b2 p
  obtain ⟨a15, p⟩ := b2 p
  obtain ⟨a16, a17⟩ := b2 p
  obtain ⟨g1, g⟩ := b2 c.gen
  obtain ⟨g2, g⟩ := b2 g
  obtain ⟨g3, g⟩ := b2 g
  obtain ⟨g4, g⟩ := b2 g
  have ec : ErrC K (EEx K i) := ⟨⟨oexB_ok a1, oo_ok a2, ob_ok a3, of_decide_eq_true a4, a5⟩, ob_ok a15, oo_ok a16, ob_ok a17⟩
  have na : ∀ y ∈ efOf i, NoAttr K (EEx K i) y := fun y hy => oo_ok (List.all_eq_true.mp a9 y hy)
  obtain ⟨fd, ps, m1, m2, m3, m4⟩ := mk ec na
  exact ⟨ec, ⟨xfB_ok a6, oo_ok a7, oo_ok g3, ob_ok g4, ob_ok a8⟩, na, He.glo_ok KX G a10, ⟨_, fd, ps, oo_ok a11, of_decide_eq_true a12, m1, m2, m3, m4⟩, ob_ok a13, ob_ok a14⟩
theorem l88_of (c : Said K) (KX : K.In h) (G : h.Ns mainGlobals mg) : L88 PR w K mg base (cA K "Paper") (cA K "Denial") (cA K "CrowdError") (CCx K) (EEx K) := by
  obtain ⟨g1, g⟩ := b2 c.gen
  obtain ⟨g2, g⟩ := b2 g
  obtain ⟨g3, g⟩ := b2 g
  obtain ⟨g4, g⟩ := b2 g
  obtain ⟨g5, g⟩ := b2 g
  obtain ⟨g6, g⟩ := b2 g
  obtain ⟨g7, g⟩ := b2 g
  obtain ⟨g8, g⟩ := b2 g
  obtain ⟨g9, g⟩ := b2 g
  obtain ⟨g9, g10⟩ := b2 g9
  obtain ⟨EQT, BOT⟩ := b2 g
  have glo : ∀ x ∈ (["Paper", "Denial", "CrowdError", "fixed", "is_like", "_law_pen", "_law_draw", "_law_pick", "_law_value", "_law_fixed", "_law_made", "_law_told", "law"] : List Str), mg x = some (.ref (cA K x)) := fun x hx => He.glo_ok KX G (List.all_eq_true.mp g9 x hx)
  have fre : ∀ x ∈ (["isinstance", "list", "tuple", "len", "all", "zip", "bool", "int", "abs", "repr", "range", "ValueError"] : List Str), mg x = none := fun x hx => He.free_ok KX G (List.all_eq_true.mp g10 x hx)
  have T : Blt mg := ⟨fre "isinstance" (by simp), fre "list" (by simp), fre "tuple" (by simp), fre "len" (by simp), fre "all" (by simp), fre "zip" (by simp), fre "bool" (by simp), fre "int" (by simp), fre "abs" (by simp), fre "repr" (by simp), fre "range" (by simp), fre "ValueError" (by simp)⟩
  obtain ⟨fd0, D0⟩ : ∃ fd, FnP K "fixed" "fixed" sFixed (cA K "fixed") fd := c.def_ 0 rfl
  have B0 : Binds K fd0 ["value"] [] := D0.bindsN fun _ _ _ _ _ _ us hl => match us, hl with | [_], _ => rfl
  have m0 := glo "fixed" (by simp)
  obtain ⟨fd1, D1⟩ : ∃ fd, FnP K "is_like" "is_like" sLike (cA K "is_like") fd := c.def_ 1 rfl
  have B1 : Binds K fd1 ["one", "other"] [] := D1.bindsN fun _ _ _ _ _ _ us hl => match us, hl with | [_, _], _ => rfl
  have m1 := glo "is_like" (by simp)
  obtain ⟨fd2, D2⟩ : ∃ fd, FnP K "_law_pen" "_law_pen" sPen (cA K "_law_pen") fd := c.def_ 2 rfl
  have B2 : Binds K fd2 ["script"] [] := D2.bindsN fun _ _ _ _ _ _ us hl => match us, hl with | [_], _ => rfl
  have m2 := glo "_law_pen" (by simp)
  obtain ⟨fd3, D3⟩ : ∃ fd, FnP K "_law_draw" "_law_draw" sDraw (cA K "_law_draw") fd := c.def_ 3 rfl
  have B3 : Binds K fd3 ["pen", "many"] [] := D3.bindsN fun _ _ _ _ _ _ us hl => match us, hl with | [_, _], _ => rfl
  have m3 := glo "_law_draw" (by simp)
  obtain ⟨fd4, D4⟩ : ∃ fd, FnP K "_law_pick" "_law_pick" sPick (cA K "_law_pick") fd := c.def_ 4 rfl
  have B4 : Binds K fd4 ["pen", "some"] [] := D4.bindsN fun _ _ _ _ _ _ us hl => match us, hl with | [_, _], _ => rfl
  have m4 := glo "_law_pick" (by simp)
  obtain ⟨fd5, D5⟩ : ∃ fd, FnP K "_law_value" "_law_value" sValue (cA K "_law_value") fd := c.def_ 5 rfl
  have B5 : Binds K fd5 ["pen", "deep"] [] := D5.bindsN fun _ _ _ _ _ _ us hl => match us, hl with | [_, _], _ => rfl
  have m5 := glo "_law_value" (by simp)
  obtain ⟨fd6, D6⟩ : ∃ fd, FnP K "_law_fixed" "_law_fixed" sLFixed (cA K "_law_fixed") fd := c.def_ 6 rfl
  have B6 : Binds K fd6 ["value"] [] := D6.bindsN fun _ _ _ _ _ _ us hl => match us, hl with | [_], _ => rfl
  have m6 := glo "_law_fixed" (by simp)
  obtain ⟨fd7, D7⟩ : ∃ fd, FnP K "_law_made" "_law_made" sMade (cA K "_law_made") fd := c.def_ 7 rfl
  have B7 : Binds K fd7 ["name", "parts"] [] := D7.bindsN fun _ _ _ _ _ _ us hl => match us, hl with | [_, _], _ => rfl
  have m7 := glo "_law_made" (by simp)
  obtain ⟨fd8, D8⟩ : ∃ fd, FnP K "_law_told" "_law_told" sTold (cA K "_law_told") fd := c.def_ 8 rfl
  have B8 : Binds K fd8 ["paper", "name"] [] := D8.bindsN fun _ _ _ _ _ _ us hl => match us, hl with | [_, _], _ => rfl
  have m8 := glo "_law_told" (by simp)
  obtain ⟨fd10, D10⟩ : ∃ fd, FnP K "__init__" "Paper.__init__" sPInit (mA K "Paper" "__init__") fd := c.def_ 10 rfl
  obtain ⟨fd11, D11⟩ : ∃ fd, FnP K "__eq__" "Paper.__eq__" sPEq (mA K "Paper" "__eq__") fd := c.def_ 11 rfl
  obtain ⟨fd12, D12⟩ : ∃ fd, FnP K "__bool__" "Paper.__bool__" sPBool (mA K "Paper" "__bool__") fd := c.def_ 12 rfl
  have B11 : Binds K fd11 ["self", "other"] [] := D11.bindsN fun _ _ _ _ _ _ us hl => match us, hl with | [_, _], _ => rfl
  have B12 : Binds K fd12 ["self"] [] := D12.bindsN fun _ _ _ _ _ _ us hl => match us, hl with | [_], _ => rfl
  have KFx : ∀ n, Kn PR w K mg base (n + 1) "fixed" ["value"] (spFix K n) (cA K "fixed") fd0 := fun n => ⟨ok_fixed D0 T m0 n, m0, D0.kp, B0⟩
  have KLk : Kn PR w K mg base 5 "is_like" ["one", "other"] (spLike K 4) (cA K "is_like") fd1 := ⟨ok_like D1 T m1 4 (by omega), m1, D1.kp, B1⟩
  have KPen : Kn PR w K mg base 1 "_law_pen" ["script"] (spPen K) (cA K "_law_pen") fd2 := ⟨ok_pen D2 T, m2, D2.kp, B2⟩
  have KDraw : Kn PR w K mg base 1 "_law_draw" ["pen", "many"] spDraw (cA K "_law_draw") fd3 := ⟨ok_draw D3 T, m3, D3.kp, B3⟩
  have KPick : Kn PR w K mg base 2 "_law_pick" ["pen", "some"] spPick (cA K "_law_pick") fd4 := ⟨ok_pick KDraw D4 T, m4, D4.kp, B4⟩
  have KVal : ∀ d, Kn PR w K mg base (d + 3) "_law_value" ["pen", "deep"] (spVal K d) (cA K "_law_value") fd5 := fun d => ⟨ok_value KDraw KPick D5 T m5 d, m5, D5.kp, B5⟩
  have KLF : ∀ n, Kn PR w K mg base (n + 1) "_law_fixed" ["value"] (spFix K n) (cA K "_law_fixed") fd6 := fun n => ⟨ok_lfixed D6 T m6 n, m6, D6.kp, B6⟩
  have KI : FnR PR w K mg base CX0 6 (mA K "Paper" "__init__") (spPaper K 4) := ok_pinit (n := 4) (KFx 4) D10
  have nil : ∀ {k : Nat} {f : Addr} {sp : Sp}, FnR PR w K mg base CX0 k f (fun vs H Q E => sp (vs ++ []) H Q E) → FnR PR w K mg base CX0 k f sp := fun F => F.imp fun vs H Q E hs => by rw [List.append_nil]; exact hs
  have I0 : FnR PR w K mg base CX0 7 (mA K (clOf 0) "__init__") (spSub K (CCx K 0) (flOf 0) 4) := by
    obtain ⟨cc, cda, fd, X⟩ := c.supF 0 rfl
    obtain ⟨s1, s2⟩ := sub_of c (i := 0) (by decide)
    have b : Binds K fd ["self", "value", "bottom", "shares", "scale", "numbers"] [] := sub_binds X fun _ _ _ _ _ us hl => match us, hl with | [_, _, _, _, _, _], _ => rfl
    exact nil ((ok_i26 (n := 4) X topS s1 s2 KI).raw b .nil)
  have I1 : FnR PR w K mg base CX0 7 (mA K (clOf 1) "__init__") (spSub K (CCx K 1) (flOf 1) 4) := by
    obtain ⟨cc, cda, fd, X⟩ := c.supF 1 rfl
    obtain ⟨s1, s2⟩ := sub_of c (i := 1) (by decide)
    have b : Binds K fd ["self", "statement", "branch", "scale", "numbers"] [] := sub_binds X fun _ _ _ _ _ us hl => match us, hl with | [_, _, _, _, _], _ => rfl
    exact nil ((ok_i36 (n := 4) X topS s1 s2 KI).raw b .nil)
  have I2 : FnR PR w K mg base CX0 7 (mA K (clOf 2) "__init__") (spSub K (CCx K 2) (flOf 2) 4) := by
    obtain ⟨cc, cda, fd, X⟩ := c.supF 2 rfl
    obtain ⟨s1, s2⟩ := sub_of c (i := 2) (by decide)
    have b : Binds K fd ["self", "statement", "branch", "lot"] [] := sub_binds X fun _ _ _ _ _ us hl => match us, hl with | [_, _, _, _], _ => rfl
    exact nil ((ok_i37 (n := 4) X topS s1 s2 KI).raw b .nil)
  have I3 : FnR PR w K mg base CX0 7 (mA K (clOf 3) "__init__") (spSub K (CCx K 3) (flOf 3) 4) := by
    obtain ⟨cc, cda, fd, X⟩ := c.supF 3 rfl
    obtain ⟨s1, s2⟩ := sub_of c (i := 3) (by decide)
    have b : Binds K fd ["self", "value", "plan", "wall"] [] := sub_binds X fun _ _ _ _ _ us hl => match us, hl with | [_, _, _, _], _ => rfl
    exact nil ((ok_i33 (n := 4) X topS s1 s2 KI).raw b .nil)
  have I4 : FnR PR w K mg base CX0 7 (mA K (clOf 4) "__init__") (spSub K (CCx K 4) (flOf 4) 4) := by
    obtain ⟨cc, cda, fd, X⟩ := c.supF 4 rfl
    obtain ⟨s1, s2⟩ := sub_of c (i := 4) (by decide)
    have b : Binds K fd ["self", "value", "fence", "stretches"] [] := sub_binds X fun _ _ _ _ _ us hl => match us, hl with | [_, _, _, _], _ => rfl
    exact nil ((ok_i31 (n := 4) X topS s1 s2 KI).raw b .nil)
  have I5 : FnR PR w K mg base CX0 7 (mA K (clOf 5) "__init__") (spSub K (CCx K 5) (flOf 5) 4) := by
    obtain ⟨cc, cda, fd, X⟩ := c.supF 5 rfl
    obtain ⟨s1, s2⟩ := sub_of c (i := 5) (by decide)
    have b : Binds K fd ["self", "threshold", "rows"] [] := sub_binds X fun _ _ _ _ _ us hl => match us, hl with | [_, _, _], _ => rfl
    exact nil ((ok_i30 (n := 4) X topS s1 s2 KI).raw b .nil)
  have I6 : FnR PR w K mg base CX0 7 (mA K (clOf 6) "__init__") (spSub K (CCx K 6) (flOf 6) 4) := by
    obtain ⟨cc, cda, fd, X⟩ := c.supF 6 rfl
    obtain ⟨s1, s2⟩ := sub_of c (i := 6) (by decide)
    have b : Binds K fd ["self", "lots", "bars"] [] := sub_binds X fun _ _ _ _ _ us hl => match us, hl with | [_, _, _], _ => rfl
    exact nil ((ok_i32 (n := 4) X topS s1 s2 KI).raw b .nil)
  have I7 : FnR PR w K mg base CX0 7 (mA K (clOf 7) "__init__") (spSub K (CCx K 7) (flOf 7) 4) := by
    obtain ⟨cc, cda, fd, X⟩ := c.supF 7 rfl
    obtain ⟨s1, s2⟩ := sub_of c (i := 7) (by decide)
    have b : Binds K fd ["self", "rows"] [] := sub_binds X fun _ _ _ _ _ us hl => match us, hl with | [_, _], _ => rfl
    exact nil ((ok_i35 (n := 4) X topS s1 s2 KI).raw b .nil)
  have I8 : FnR PR w K mg base CX0 7 (mA K (clOf 8) "__init__") (spSub K (CCx K 8) (flOf 8) 4) := by
    obtain ⟨cc, cda, fd, X⟩ := c.supF 8 rfl
    obtain ⟨s1, s2⟩ := sub_of c (i := 8) (by decide)
    have b : Binds K fd ["self", "fits"] [] := sub_binds X fun _ _ _ _ _ us hl => match us, hl with | [_, _], _ => rfl
    exact nil ((ok_i39 (n := 4) X topS s1 s2 KI).raw b .nil)
  have I9 : FnR PR w K mg base CX0 7 (mA K (clOf 9) "__init__") (spSub K (CCx K 9) (flOf 9) 4) := by
    obtain ⟨cc, cda, fd, X⟩ := c.supF 9 rfl
    obtain ⟨s1, s2⟩ := sub_of c (i := 9) (by decide)
    have b : Binds K fd ["self", "name"] [] := sub_binds X fun _ _ _ _ _ us hl => match us, hl with | [_, _], _ => rfl
    exact nil ((ok_i28 (n := 4) X topS s1 s2 KI).raw b .nil)
  have I10 : FnR PR w K mg base CX0 7 (mA K (clOf 10) "__init__") (spSub K (CCx K 10) (flOf 10) 4) := by
    obtain ⟨cc, cda, fd, X⟩ := c.supF 10 rfl
    obtain ⟨s1, s2⟩ := sub_of c (i := 10) (by decide)
    have b : Binds K fd ["self", "lot"] [] := sub_binds X fun _ _ _ _ _ us hl => match us, hl with | [_, _], _ => rfl
    exact nil ((ok_i27 (n := 4) X topS s1 s2 KI).raw b .nil)
  have PP : ∀ i, i < 11 → Pap PR w K mg base (cA K "Paper") i (CCx K i) := fun i hi => pap_of c KX G hi (match i, hi with
    | 0, _ => I0
    | 1, _ => I1
    | 2, _ => I2
    | 3, _ => I3
    | 4, _ => I4
    | 5, _ => I5
    | 6, _ => I6
    | 7, _ => I7
    | 8, _ => I8
    | 9, _ => I9
    | 10, _ => I10
    | n + 11, h => absurd h (by omega))
  have E0 : Err PR w K mg base (cA K "CrowdError") 0 (EEx K 0) := err_of c KX G (by decide) fun ec na => by
    obtain ⟨cc, cda, fd, X⟩ := c.supF 11 rfl
    have b : Binds K fd ["self", "part"] [] := sub_binds X fun _ _ _ _ _ us hl => match us, hl with | [_, _], _ => rfl
    refine ⟨fd, _, ok_e2 X topS ec na, rfl, b, ?_⟩
    exact fun y hy => by
      obtain rfl := (List.cons.inj hy).1
      exact sub_kbinds X fun _ _ _ _ _ _ _ => rfl
  have E1 : Err PR w K mg base (cA K "CrowdError") 1 (EEx K 1) := err_of c KX G (by decide) fun ec na => by
    obtain ⟨cc, cda, fd, X⟩ := c.supF 12 rfl
    have b : Binds K fd ["self", "part"] [] := sub_binds X fun _ _ _ _ _ us hl => match us, hl with | [_, _], _ => rfl
    refine ⟨fd, _, ok_e3 X topS ec na, rfl, b, ?_⟩
    exact fun y hy => by
      obtain rfl := (List.cons.inj hy).1
      exact sub_kbinds X fun _ _ _ _ _ _ _ => rfl
  have E2 : Err PR w K mg base (cA K "CrowdError") 2 (EEx K 2) := err_of c KX G (by decide) fun ec na => by
    obtain ⟨cc, cda, fd, X⟩ := c.supF 13 rfl
    have b : Binds K fd ["self", "part"] [] := sub_binds X fun _ _ _ _ _ us hl => match us, hl with | [_, _], _ => rfl
    refine ⟨fd, _, ok_e4 X topS ec na, rfl, b, ?_⟩
    exact fun y hy => by
      obtain rfl := (List.cons.inj hy).1
      exact sub_kbinds X fun _ _ _ _ _ _ _ => rfl
  have E3 : Err PR w K mg base (cA K "CrowdError") 3 (EEx K 3) := err_of c KX G (by decide) fun ec na => by
    obtain ⟨cc, cda, fd, X⟩ := c.supF 14 rfl
    have b : Binds K fd ["self", "part"] [] := sub_binds X fun _ _ _ _ _ us hl => match us, hl with | [_, _], _ => rfl
    refine ⟨fd, _, ok_e5 X topS ec na, rfl, b, ?_⟩
    exact fun y hy => by
      obtain rfl := (List.cons.inj hy).1
      exact sub_kbinds X fun _ _ _ _ _ _ _ => rfl
  have E4 : Err PR w K mg base (cA K "CrowdError") 4 (EEx K 4) := err_of c KX G (by decide) fun ec na => by
    obtain ⟨cc, cda, fd, X⟩ := c.supF 15 rfl
    have b : Binds K fd ["self", "part"] [] := sub_binds X fun _ _ _ _ _ us hl => match us, hl with | [_, _], _ => rfl
    refine ⟨fd, _, ok_e6 X topS ec na, rfl, b, ?_⟩
    exact fun y hy => by
      obtain rfl := (List.cons.inj hy).1
      exact sub_kbinds X fun _ _ _ _ _ _ _ => rfl
  have E5 : Err PR w K mg base (cA K "CrowdError") 5 (EEx K 5) := err_of c KX G (by decide) fun ec na => by
    obtain ⟨cc, cda, fd, X⟩ := c.supF 16 rfl
    have b : Binds K fd ["self", "part"] [] := sub_binds X fun _ _ _ _ _ us hl => match us, hl with | [_, _], _ => rfl
    refine ⟨fd, _, ok_e7 X topS ec na, rfl, b, ?_⟩
    exact fun y hy => by
      obtain rfl := (List.cons.inj hy).1
      exact sub_kbinds X fun _ _ _ _ _ _ _ => rfl
  have E6 : Err PR w K mg base (cA K "CrowdError") 6 (EEx K 6) := err_of c KX G (by decide) fun ec na => by
    obtain ⟨cc, cda, fd, X⟩ := c.supF 17 rfl
    have b : Binds K fd ["self", "part"] [] := sub_binds X fun _ _ _ _ _ us hl => match us, hl with | [_, _], _ => rfl
    refine ⟨fd, _, ok_e8 X topS ec na, rfl, b, ?_⟩
    exact fun y hy => by
      obtain rfl := (List.cons.inj hy).1
      exact sub_kbinds X fun _ _ _ _ _ _ _ => rfl
  have E7 : Err PR w K mg base (cA K "CrowdError") 7 (EEx K 7) := err_of c KX G (by decide) fun ec na => by
    obtain ⟨cc, cda, fd, X⟩ := c.supF 18 rfl
    have b : Binds K fd ["self", "part"] [] := sub_binds X fun _ _ _ _ _ us hl => match us, hl with | [_, _], _ => rfl
    refine ⟨fd, _, ok_e9 X topS ec na, rfl, b, ?_⟩
    exact fun y hy => by
      obtain rfl := (List.cons.inj hy).1
      exact sub_kbinds X fun _ _ _ _ _ _ _ => rfl
  have E8 : Err PR w K mg base (cA K "CrowdError") 8 (EEx K 8) := err_of c KX G (by decide) fun ec na => by
    obtain ⟨cc, cda, fd, X⟩ := c.supF 19 rfl
    have b : Binds K fd ["self", "part"] [] := sub_binds X fun _ _ _ _ _ us hl => match us, hl with | [_, _], _ => rfl
    refine ⟨fd, _, ok_e10 X topS ec na, rfl, b, ?_⟩
    exact fun y hy => by
      obtain rfl := (List.cons.inj hy).1
      exact sub_kbinds X fun _ _ _ _ _ _ _ => rfl
  have E9 : Err PR w K mg base (cA K "CrowdError") 9 (EEx K 9) := err_of c KX G (by decide) fun ec na => by
    obtain ⟨cc, cda, fd, X⟩ := c.supF 20 rfl
    have b : Binds K fd ["self", "part"] [] := sub_binds X fun _ _ _ _ _ us hl => match us, hl with | [_, _], _ => rfl
    refine ⟨fd, _, ok_e11 X topS ec na, rfl, b, ?_⟩
    exact fun y hy => by
      obtain rfl := (List.cons.inj hy).1
      exact sub_kbinds X fun _ _ _ _ _ _ _ => rfl
  have E10 : Err PR w K mg base (cA K "CrowdError") 10 (EEx K 10) := err_of c KX G (by decide) fun ec na => by
    obtain ⟨cc, cda, fd, X⟩ := c.supF 21 rfl
    have b : Binds K fd ["self", "value"] [] := sub_binds X fun _ _ _ _ _ us hl => match us, hl with | [_, _], _ => rfl
    refine ⟨fd, _, ok_e12 X topS ec na, rfl, b, ?_⟩
    exact fun y hy => by
      obtain rfl := (List.cons.inj hy).1
      exact sub_kbinds X fun _ _ _ _ _ _ _ => rfl
  have E11 : Err PR w K mg base (cA K "CrowdError") 11 (EEx K 11) := err_of c KX G (by decide) fun ec na => by
    obtain ⟨cc, cda, fd, X⟩ := c.supF 22 rfl
    have b : Binds K fd ["self", "value"] [] := sub_binds X fun _ _ _ _ _ us hl => match us, hl with | [_, _], _ => rfl
    refine ⟨fd, _, ok_e13 X topS ec na, rfl, b, ?_⟩
    exact fun y hy => by
      obtain rfl := (List.cons.inj hy).1
      exact sub_kbinds X fun _ _ _ _ _ _ _ => rfl
  have E12 : Err PR w K mg base (cA K "CrowdError") 12 (EEx K 12) := err_of c KX G (by decide) fun ec na => by
    obtain ⟨cc, cda, fd, X⟩ := c.supF 23 rfl
    have b : Binds K fd ["self", "part"] [] := sub_binds X fun _ _ _ _ _ us hl => match us, hl with | [_, _], _ => rfl
    refine ⟨fd, _, ok_e14 X topS ec na, rfl, b, ?_⟩
    exact fun y hy => by
      obtain rfl := (List.cons.inj hy).1
      exact sub_kbinds X fun _ _ _ _ _ _ _ => rfl
  have E13 : Err PR w K mg base (cA K "CrowdError") 13 (EEx K 13) := err_of c KX G (by decide) fun ec na => by
    obtain ⟨cc, cda, fd, X⟩ := c.supF 24 rfl
    have b : Binds K fd ["self", "part"] [] := sub_binds X fun _ _ _ _ _ us hl => match us, hl with | [_, _], _ => rfl
    refine ⟨fd, _, ok_e15 X topS ec na, rfl, b, ?_⟩
    exact fun y hy => by
      obtain rfl := (List.cons.inj hy).1
      exact sub_kbinds X fun _ _ _ _ _ _ _ => rfl
  have E14 : Err PR w K mg base (cA K "CrowdError") 14 (EEx K 14) := err_of c KX G (by decide) fun ec na => by
    obtain ⟨cc, cda, fd, X⟩ := c.supF 25 rfl
    have b : Binds K fd ["self", "what"] [] := sub_binds X fun _ _ _ _ _ us hl => match us, hl with | [_, _], _ => rfl
    refine ⟨fd, _, ok_e16 X topS ec na, rfl, b, ?_⟩
    exact fun y hy => by
      obtain rfl := (List.cons.inj hy).1
      exact sub_kbinds X fun _ _ _ _ _ _ _ => rfl
  have E15 : Err PR w K mg base (cA K "CrowdError") 15 (EEx K 15) := err_of c KX G (by decide) fun ec na => by
    obtain ⟨cc, cda, fd, X⟩ := c.supF 26 rfl
    have b : Binds K fd ["self", "line", "word"] [] := sub_binds X fun _ _ _ _ _ us hl => match us, hl with | [_, _, _], _ => rfl
    refine ⟨fd, _, ok_e17 X topS ec na, rfl, b, ?_⟩
    exact fun y hy => by
      have := congrArg List.length hy
      cases this
  have E16 : Err PR w K mg base (cA K "CrowdError") 16 (EEx K 16) := err_of c KX G (by decide) fun ec na => by
    obtain ⟨cc, cda, fd, X⟩ := c.supF 27 rfl
    have b : Binds K fd ["self", "word"] [] := sub_binds X fun _ _ _ _ _ us hl => match us, hl with | [_, _], _ => rfl
    refine ⟨fd, _, ok_e18 X topS ec na, rfl, b, ?_⟩
    exact fun y hy => by
      obtain rfl := (List.cons.inj hy).1
      exact sub_kbinds X fun _ _ _ _ _ _ _ => rfl
  have E17 : Err PR w K mg base (cA K "CrowdError") 17 (EEx K 17) := err_of c KX G (by decide) fun ec na => by
    obtain ⟨cc, cda, fd, X⟩ := c.supF 28 rfl
    have b : Binds K fd ["self", "what", "most"] [] := sub_binds X fun _ _ _ _ _ us hl => match us, hl with | [_, _, _], _ => rfl
    refine ⟨fd, _, ok_e19 X topS ec na, rfl, b, ?_⟩
    exact fun y hy => by
      have := congrArg List.length hy
      cases this
  exact
    { T := T
      pen := ⟨_, _, KPen⟩
      draw := ⟨_, _, KDraw⟩
      pick := ⟨_, _, KPick⟩
      val := fun d => ⟨_, _, KVal d⟩
      fix := fun n => ⟨_, _, KLF n⟩
      made := ⟨_, _, ⟨ok_made PP D7 T, m7, D7.kp, B7⟩⟩
      told := ⟨_, _, ⟨ok_told D8, m8, D8.kp, B8⟩⟩
      pap := PP
      eqs := ⟨_, EQT, nil ((ok_peq KLk D11 T (glo "Paper" (by simp))).raw B11 .nil), fun i hi => (more_of c hi).1⟩
      nes := fun i hi => (more_of c hi).2.2.1
      boo := ⟨_, BOT, nil ((ok_pbool D12 T).raw B12 .nil), fun i hi => (more_of c hi).2.1⟩
      nfP := fun i j hi hj => (more_of c hi).2.2.2.2.2.2 j hj
      nfL := fun i hi => (more_of c hi).2.2.2.1
      nfI := fun i hi => (more_of c hi).2.2.2.2.1
      isD := fun i hi => (more_of c hi).2.2.2.2.2.1
      lP := ob_ok g7
      iP := ob_ok g8
      mgP := glo "Paper" (by simp)
      mgD := glo "Denial" (by simp)
      mgC := glo "CrowdError" (by simp)
      err := fun i hi => (match i, hi with
        | 0, _ => E0
        | 1, _ => E1
        | 2, _ => E2
        | 3, _ => E3
        | 4, _ => E4
        | 5, _ => E5
        | 6, _ => E6
        | 7, _ => E7
        | 8, _ => E8
        | 9, _ => E9
        | 10, _ => E10
        | 11, _ => E11
        | 12, _ => E12
        | 13, _ => E13
        | 14, _ => E14
        | 15, _ => E15
        | 16, _ => E16
        | 17, _ => E17
        | n + 18, h => absurd h (by omega)) }
end
end K8
set_option Elab.async false
set_option linter.all false
set_option maxRecDepth 100000
set_option maxHeartbeats 4000000
namespace K8
open PySem PySem.Spec PyProof.Rows L2
theorem room31 : Room 31 callerA := ⟨rfl, by decide, by decide⟩
theorem call_of {w : World} {K : Fg} {mg mb : Str → Option Value} {s1 : Shared} {fa a : Addr} {vs : List Value} {ns : List Int} (kin : K.In s1.heap) (c : obsX K = valX) (G : s1.heap.Ns mainGlobals mg) (nsB : s1.heap.Ns builtinsNs mb) (bOk : ∀ y : Str, y ≠ "__name__" → mb y = bootBuiltins y) (nol : s1.heap.NoLimit) (gen0 : s1.gens = #[])
    (hmg : mg ("law" : Str) = some (.ref fa)) (at_ : s1.heap.get? a = some { cls := .type "list", data := .seq vs.toArray }) (hints : IntsAre vs ns) (small : ns.length ≤ 63) :
    codeAny (model PR w) callerA (.call (.ref fa) ⟨[.ref a], []⟩) (fun r s' => r = .ok (.ret (.bool true)) ∧ OldK s1.heap s'.heap ∧ s'.os = s1.os ∧ AllBare s'.gens) s1 := by
  have sd := said c
  obtain ⟨fd, F⟩ : ∃ fd, FnP K "law" "law" sLaw (cA K "law") fd := sd.def_ 9 rfl
  have e : mg ("law" : Str) = some (.ref (cA K "law")) := by
    obtain ⟨g1, g⟩ := b2 sd.gen
    obtain ⟨g2, g⟩ := b2 g
    obtain ⟨g3, g⟩ := b2 g
    obtain ⟨g4, g⟩ := b2 g
    obtain ⟨g5, g⟩ := b2 g
    obtain ⟨g6, g⟩ := b2 g
    obtain ⟨g7, g⟩ := b2 g
    obtain ⟨g8, g⟩ := b2 g
    obtain ⟨g9, g⟩ := b2 g
    obtain ⟨g9, g10⟩ := b2 g9
    exact He.glo_ok kin G (List.all_eq_true.mp g9 "law" (by simp))
  have ea := hmg.symm.trans e
  cases ea
  have b := FunD.bindsA (ps := ["script"]) F fun _ _ _ _ _ _ us hl => match us, hl with | [_], _ => rfl
  exact law_at (k := 30) (N := ["script", "pen", "names", "denials", "lap", "name", "other", "parts", "paper", "attributes", "twin", "its", "many", "at", "more", "is_like_v", "value", "caught", "both", "told_parts", "part", "one"]) (x := "script") F scLaw room31 (fun s u => b s [u] rfl) kin G nsB bOk nol gen0 at_ hints (by rw [sizeLine_eq]; omega) fun base H cdv hS kb Gb =>
    law_body (l88_of sd kb Gb) (f := cA K "law") (cdv := cdv) (outer := []) (s := s1) (Q := fun v _ => v = .bl true) (E := E0) rfl (room31.deeper _) ⟨a, ns, rfl, hS, small, fun _ => rfl⟩
end K8
open PySem PySem.W PySem.Calls PyProof.Rows
theorem PySem.Challenge.cw_crowdsplit_k88_papers_are_values_of_thei_holds : PySem.Challenge.rw_crowdsplit_k88_papers_are_values_of_thei.Holds := by
  w_on; o_law
  refine HandSHeadRun.head_any (r := K8.RO) (q := view K8.RO.prog [48]) (H := K8.hk) (ob := K8.obT) (M := 12000) (loose := K8.looseX) (d := HandSHeadRun.topDef K8.RO.prog 48) (kwd := []) K8.obT_eq
    (by kernel_rfl) (fun s => by kernel_rfl) K8.run (by kernel_rfl) (by kernel_rfl) (by kernel_rfl) (by rfl) (by first | assumption | decide +kernel) (by decide +kernel) ⟨rfl, rfl, rfl, rfl, rfl, by decide +kernel⟩ ?hw ?hc
  case hw => w_witness2
  case hc =>
    refine Att.attach_call (l := PySem.Challenge.rw_crowdsplit_k88_papers_are_values_of_thei) (n := 63) rfl (by kernel_rfl) fun w s0 s1 mg mb fa o pm cd doc a vs ns G Y ho hd hcd hmg hobj hints hlen hg => ?_
    obtain ⟨K, KX, c⟩ := Y
    have e : (HandSHeadRun.topDef K8.RO.prog 48).name = ("law" : PySem.Str) := by kernel_rfl
    rw [e] at hmg
    exact K8.call_of KX c G.T.g G.T.b G.T.builtins G.T.nolimit hg hmg hobj hints hlen
