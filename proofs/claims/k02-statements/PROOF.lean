import PyProof.Rows.All
import Wide.All
import OpenK.AllK
import Wide.FinOn
import PyProof.EqAt
import PyProof.EqKinds
import PyProof.TupleCall
import KE.KSuper
import KE.KExcSuper
import HandS.Base
import HandS.Call
import HandS.List
import HandS.Ends
import HandS.Exc
import HandS.ExcInit
import HandS.Nested
import KE.KIsAll
import KE.KTryMore
import HandS.ExcIs
import HandS.ExcField
import HandS.ExcValue
import KE.KExcIs
import KE.KLam
import KE.KDflt
import HandS.Codes
import HandS.TryOnly
import HandS.Lambda
import PyProof.Rows.SortStr
import KE.KDictSum
import HandS.Dict
import HandS.Set
import HandS.SetFor
import HandS.SetTxt0
import HandS.TupSets
import HandS.ExcOwn
import HandS.ForMost
import HandS.Evl
import HandS.IsInst
import HandS.Defaults
import HandS.SetTxtIn
import PySem.Challenge.RW_atallprices_k02_statements_and_their_tex
import HandS.Conv
import PyProof.NeKinds
import HandS.WordsExc
import HandS.DictComp
import HandS.EndOwn
import PyProof.ReprRoads
import PyProof.ReprBulk
import PyProof.Rows.StrMeet
import HandS.Style
set_option Elab.async false
set_option linter.all false
set_option maxRecDepth 100000
set_option maxHeartbeats 4000000
/-! own: super().__init__(..) in the __init__ of an own exception over ValueError, in the hand layer -/
namespace XcS
open PySem PySem.Spec PyProof.Rows PySem.W PySem.Calls L2 NdefX

/-- the call of the bound ValueError.__init__ -/
theorem mw_call {X : Cx} {pins : List (Addr × Obj)} {σ : L2.St} {H : Hp} {s : Shared} {u a C : Addr} {us : List Value} {Q : Value → Shared → Prop} {E : Value → Shared → Prop} (T : OexC X.K C) (I : Inv X pins σ H s) (e : H a = some (exo a C none))
    (hu : s.heap.get? u = some (kxs_mw "ValueError.__init__" a)) (hl : us.length ≤ sizeLine) (h : ∀ s', Inv X pins σ H s' → Q .none s') : wpAny (model X.prog X.w) X.A (call (.ref u) us) Q E s := by
  obtain ⟨nm, q, N, bs, bm, sn, sub, ab, col, dd, k0, k1, k2, k3, k5, hC, hbm⟩ := T.cls
  obtain ⟨t1, ho⟩ := exo_at I.hok e
  have hC' := I.kIn _ _ hC
  obtain ⟨hh, g, d, tk, os⟩ := s
  refine wpAny_call (codeAny_of_tree ?_)
  show wpAny _ X.A.in1 (callAny (.ref u) ⟨us, []⟩) _ _ _
  simp only [callAny]
  refine wpAny_bind (wpAny_load hu ?_)
  simp only [kxs_mw, show (Value.type "method-wrapper" == Value.type "method" || Value.type "method-wrapper" == Value.type "builtin_function_or_method" || Value.type "method-wrapper" == Value.type "method-wrapper") = true by decide, if_true]
  refine KFB.if_so (by decide) ?_
  refine wpAny_bind (check_bound_init F.excBase_ValueError.toExcCallFacts hC' ho rfl ?_)
  refine wpAny_bind (wpAny_pure (wpAny_pure ?_))
  refine ⟨plainId_quiet F.excBase_ValueError.init.plain _, codeAny_builtin F.excBase_ValueError.initEntry ?_⟩
  refine exc_init_tree (cls := .ref C) (t0 := t1) (dv := none) (c2 := .none) (c3 := .none) (b4 := .bool false) ho hl fun h' k e' t' => ?_
  have J := I.write (t' := tk) (x := a) (e := a) (o := exo a C none) (by rw [e]; exact True.intro) (.inl rfl) k ⟨_, e'⟩ (exo_ok e')
  have eu : upd H a (exo a C none) = H := by
    funext b
    by_cases hb : b = a
    · rw [hb, upd_same, e]
    · rw [upd_ne hb]
  rw [eu] at J
  exact h _ J

theorem cw_mw {M : Model} {A : Around} {E : Value → Shared → Prop} {s : Shared} {i : String} {u x : Addr} {pos : Pos} {env : Env} {e : Expr} {rest : List Expr} {Q : Value → Shared → Prop}
    (he : starEach (e :: rest) env = (false, eval e env) :: starEach rest env) (hplain : (backTo pos (starEach rest env)).any (·.1) = false)
    (h : wpAny M A (spliced (backTo pos (starEach (e :: rest) env))) (fun vs s₁ => KxsAt i u x s₁.heap ∧ wpAny M A (call (.ref u) vs) Q E s₁) E s) : wpAny M A (callWith pos (.ref u) [] (backTo pos (starEach (e :: rest) env)) []) Q E s := by
  rw [he] at h ⊢
  refine kxs_callWith (i := i) (x := x) (by show (false || (backTo pos (starEach rest env)).any (·.1)) = false; rw [hplain]; rfl) ?_
  exact evalArgs_plain h
/-- the words of the __init__ (its code object at cda, the class cell at cc) -/
abbrev sNF (name qual : Str) (params : Arguments) (body : List Stmt) (scope : Scope) (cc cda : Addr) : NF := ⟨name, qual, params, body, scope, [("__class__", cc)], cda⟩
/-- what the written part says of the __init__ that says super() -/
structure SupK (P : Program) (K : PySem.W.Frag) (mg : Str → Option Value) (qual : Str) (cc cda D : Addr) : Prop where
  cell : ∃ cl cld csl, K.lookup cc = some ⟨cl, cld, .cell (some (.ref D)), csl⟩
  code : ∃ ccl cdd vs ccs file tf, K.lookup cda = some ⟨ccl, cdd, .fields vs, ccs⟩ ∧ vs[2]? = some (.str file tf) ∧ ((P.main.file : Str) == file) = true
  cd : PySem.W.codeIn K (.ref cda) qual = true
  clsD : ∃ cdD, PySem.W.clsIn K D = some cdD
  nosup : mg "super" = none
  top : (P.main.scope.names.lookup ("super" : Str)).isSome = false
  noth : PySem.W.nsIn K PySem.cStatics "thirdparty.any" = some none
/-- what it says of the class at C that is made -/
structure SupC (K : PySem.W.Frag) (D C : Addr) : Prop where
  ox : OexC K C
  sub : PySem.W.mroIn K C (.ref D) = some true
  ini : ks_superIn K C D "__init__" = some (some (.builtin "ValueError.__init__"))
  ve : PySem.W.subIn K (.ref C) (.type "ValueError") = some true

section
variable {CX : CXT} {P : Program} {w : World} {K : PySem.W.Frag} {mg : Str → Option Value} {base : Heap} {N ps : List Str} {k : Nat} {f cc cda D : Addr} {name qual : Str} {params : Arguments} {scope : Scope} {dV kV doc pm ct oc : Value} {an od : Option Addr} {osl : Array (Option Value)} {sp : Sp}
  {e : Expr} {es : List Expr} {body : List Stmt} {p0 p1 p2 p3 p4 : Pos} {ar : Arg}
theorem fn_super (lk : K.lookup f = some ⟨oc, od, .func (ksFn name qual params (.Expr (.Call (.Attribute (.Call (.Name "super" p0) [] [] p1) "__init__" p2) (e :: es) [] p3) p4 :: body) scope dV kV doc pm an (.ref cda) ct cc), osl⟩)
    (SK : SupK P K mg qual cc cda D) (S : NScope N ps ["__class__"] scope) (len : ∀ vs H Q E, sp vs H Q E → vs.length = ps.length)
    (hp : (params.posonlyargs ++ params.args).head? = some ar) (hka : N[0]? = some ar.arg) (hps : 0 < ps.length) (hks : scope.names.lookup ("super" : Str) = some .globalImplicit)
    (hbody : ∀ (A : Around) (outer : List Env) (s : Shared) (H : Hp) (vs : List V) (Q : VK) (E : XK), Room k (A.deeper (envF (sNF name qual params [] scope cc cda) f s.heap.objs.size)) → sp vs H Q E →
      ∃ a C ws ta t, vs = .ref a :: ws ∧ H a = some (exo a C none) ∧ SupC K D C ∧ PA (ncx CX P w K mg base N (sNF name qual params [] scope cc cda) f A outer s H E) (e :: es) ta ∧
        PSs (ncx CX P w K mg base N (sNF name qual params [] scope cc cda) f A outer s H E) body t ∧
        ta (startF N vs [some (.ref D)]) H (fun us H1 => us.length ≤ 1000 ∧ H1 a = some (exo a C none) ∧ t { nx := fun _ H' => Q .non H', rt := Q } (startF N vs [some (.ref D)]) H1))
    (hc : ∀ env : Env, ∃ pl : Sem Bool, eval (.Call (.Attribute (.Call (.Name "super" p0) [] [] p1) "__init__" p2) (e :: es) [] p3) env = (do
      let ov ← attributeBase (.Call (.Name "super" p0) [] [] p1) "__init__" env (eval (.Call (.Name "super" p0) [] [] p1) env)
      standAt p2.atName
      let (f, first) ← holding [ov] (getMethod ov "__init__" pl)
      callWith p3 f first (backTo p3 (starEach (e :: es) env)) []) := by exact fun env => ⟨_, rfl⟩)
    (he : ∀ env : Env, starEach (e :: es) env = (false, eval e env) :: starEach es env := by exact fun _ => rfl) (hpl : ∀ env : Env, (backTo p3 (starEach es env)).any (·.1) = false := by exact fun _ => rfl) :
    FnOk P w K mg base CX (k + 1) f (ksFn name qual params (.Expr (.Call (.Attribute (.Call (.Name "super" p0) [] [] p1) "__init__" p2) (e :: es) [] p3) p4 :: body) scope dV kV doc pm an (.ref cda) ct cc) ps sp := by
  refine ⟨len, fun A outer s H args us vs Q E hr e0 hb r hsp => ?_⟩
  have hl := len _ _ _ _ hsp
  have KX : K.In s.heap := e0.mod.kin.keeps fun b o e => (e0.bs b o e).1
  have lim : s.heap.NoLimit := e0.mod.nolimit.keeps fun b o e => (e0.bs b o e).1
  obtain ⟨cl, cld, csl, hcell⟩ := SK.cell
  obtain ⟨ccl, cdd, cvs, ccs, file, tf, hcode, hcv, hfile⟩ := SK.code
  obtain ⟨cdD, hclsD⟩ := SK.clsD
  have hccb : H cc = none := (e0.bs cc _ (e0.mod.kin _ _ hcell)).2
  refine codeAny_call_function hr.depth (KX _ _ lk) rfl S.co S.gen rfl (codeRec_of KX SK.cd) (hb _ _ _ _ ?_)
  refine wpAny_newFunctionEnv S.nocell (fun ⟨n, _⟩ hy => S.par n (List.of_mem_zip hy).1) (fun h₁ hns hsb => ⟨lim.fresh _ hsb, ?_⟩) S.kind
  show codeAny _ _ (.func _ (envF (sNF name qual params [] scope cc cda) f s.heap.objs.size)) _ _
  refine ks_codeAny_funcAt ?_
  have kp : ∀ b o, s.heap.get? b = some o → h₁.get? b = some o := fun b o e => hsb.extBut b o (Nat.ne_of_lt (Heap.lt_size e)) (Heap.get?_push_of_some _ e)
  have Cs : CellsAt [("__class__", cc)] ["__class__"] [some (V.ref D)] s.heap H := by
    refine ⟨rfl, fun y c e => ?_, fun x y c e1 e2 => ?_, fun i y e => ?_⟩
    · have q := PySem.mem_of_lookup e
      simp only [List.mem_singleton, Prod.mk.injEq] at q
      rw [q.2]
      exact ⟨hccb, _, _, KX _ _ hcell, rfl⟩
    · have q1 := PySem.mem_of_lookup e1
      have q2 := PySem.mem_of_lookup e2
      simp only [List.mem_singleton, Prod.mk.injEq] at q1 q2
      rw [q1.1, q2.1]
    · cases i with
      | zero =>
        simp at e
        subst e
        refine ⟨cc, by simp [List.lookup], fun v ev => ?_⟩
        simp at ev
        subst ev
        exact ⟨.ref D, rfl, _, KX _ _ hcell, rfl⟩
      | succ i => simp at e
  obtain ⟨a, C, ws, ta, t, ev, ea, SC, hA, hS, hq⟩ := hbody A outer s H vs Q E (hr.deeper _) hsp
  have I : Inv (ncx CX P w K mg base N (sNF name qual params [] scope cc cda) f A outer s H E) [] (startF N vs [some (V.ref D)]) H { s with heap := h₁, toks := s.toks + (ps.zip us).length } := inv_startN S hr.hd e0 hl r Cs hns kp
  have hLn : s.heap.objs.size < h₁.objs.size := hns.lt
  have hint : interactive (envF (sNF name qual params [] scope cc cda) f s.heap.objs.size) = false := by
    unfold interactive
    simp [S.kind]
  obtain ⟨pl, hc⟩ := hc (envF (sNF name qual params [] scope cc cda) f s.heap.objs.size)
  have hkc : scope.names.lookup ("__class__" : Str) = some .free := S.frk _ (List.mem_singleton.mpr rfl)
  obtain ⟨oD, hD1, hD2⟩ : ∃ oD, K.lookup D = some oD ∧ oD.data = .cls cdD := by
    unfold clsIn at hclsD
    split at hclsD
    · rename_i c d cd' sl ho
      cases hclsD
      exact ⟨_, ho, rfl⟩
    · cases hclsD
  obtain ⟨mb, hb1, hb2⟩ := I.mod.blt
  obtain ⟨mL, hnsL, hlL⟩ := I.loc
  have hka0 : ps[0]? = some ar.arg := by
    have e1 : (N.take (ps.length + 1))[0]? = some ar.arg := by
      rw [List.getElem?_take_of_lt (by omega)]
      exact hka
    have e2 := S.pre
    rw [show (["__class__"] : List Str).length = 1 from rfl] at e2
    rw [e2, List.getElem?_append_left hps] at e1
    exact e1
  have hpar : scope.names.lookup ar.arg = some .local := S.par _ (List.mem_of_getElem? hka0)
  obtain ⟨u0, ru0, lk0⟩ := hlL 0 ar.arg (.ref a) hka (by rw [ev]; rfl) (.inl hpar)
  obtain rfl : u0 = Value.ref a := ru0
  have hself : mL ar.arg = some (.ref a) := by
    rcases lk0 with ⟨_, z⟩ | ⟨z, _⟩
    · exact z
    · have z' : scope.names.lookup ar.arg = some .cell ∨ scope.names.lookup ar.arg = some .free := z
      rw [hpar] at z'
      rcases z' with z' | z' <;> cases z'
  obtain ⟨nm, q, Nn, bs, bm, sn, sub, ab, col, dd, k0, k1, k2, k3, k5, hC, hbm⟩ := SC.ox.cls
  have X1 := I.kIn
  refine ks_wpAt_execs_cons (ks_wpAt_Expr_any (ks_wpAt_MethodCall (pl := pl) ?_ hc) hint)
  refine ks_wpAt_super_base (env := envF (sNF name qual params [] scope cc cda) f s.heap.objs.size) hks hkc rfl rfl (X1 _ _ lk) rfl hp rfl (X1 _ _ hcode) rfl hcv hfile SK.top ?_
  refine ks_loadName_global S.kind hks (loadGlobal_builtin (env := envF (sNF name qual params [] scope cc cda) f s.heap.objs.size) (I.mod.glob.keeps I.bk) SK.nosup (hb1.keeps I.bk) ((hb2 _ (by decide +kernel)).trans Boot.«super») ⟨rfl, ?_⟩)
  refine wpAny_loadName_free S.kind hkc (by simp [List.lookup]) ⟨_, X1 _ _ hcell, rfl⟩ ?_
  refine wpAny_loadName_local S.kind hpar hnsL hself ?_
  refine ks_wpAny_isType_cls (X1 _ _ hD1) hD2 ⟨rfl, ?_⟩
  obtain ⟨t1, ho⟩ := exo_at I.hok ea
  refine ks_wpAny_call_super (X1 _ _ hD1) hD2 ho rfl (fun c e => by cases e) (looks_mroIn X1 SC.sub) (fun h2 hso k2 => ?_)
  have I2 := I.kept (h' := h2) (t' := s.toks + (ps.zip us).length) k2
  have X2 := I2.kIn
  have hCl : clsIn K C = some { name := nm, bases := bs, mro := .ref C :: bm, ns := Nn, qualname := q, hasDict := true, slotNames := sn, subclasses := sub, abstract := ab, collection := col, hasDel := false } := by unfold clsIn; rw [hC] <;> rfl
  have hini := SC.ini
  unfold ks_superIn at hini
  rw [hCl] at hini
  have hne : a ≠ C := by
    rintro rfl
    have z := X1 _ _ hC
    rw [ho] at z
    cases z
  refine kxs_getMethod kxs_ValueError hso (looks_opaque X2 SK.noth) (l₀ := .ref C :: bm) ?_ rfl X2 hini ?_ hne (by decide +kernel) ?_
  · exact fun A Q E s k q => wpAny_bind ((looks_clsIn X2 hCl) A _ E s k (wpAny_pure q))
  · have IA : InstAt h2 a _ C none := ⟨k2 _ _ ho, rfl, rfl, trivial⟩
    exact IA.type.andThen (looks_subIn X2 SC.ve)
  · have hmw : (h2.push (kxs_mw "ValueError.__init__" a)).get? h2.objs.size = some (kxs_mw "ValueError.__init__" a) := Heap.get?_push_size _ rfl
    have I3 := I2.kept (h' := h2.push (kxs_mw "ValueError.__init__" a)) (t' := s.toks + (ps.zip us).length + 1) (fun b o e => Heap.get?_push_of_some _ e)
    have I4 := I3.pins_of (pins' := [(h2.objs.size, kxs_mw "ValueError.__init__" a)]) (fun p hp => by
      rw [List.mem_singleton] at hp
      subst hp
      refine ⟨hmw, I2.hok.fresh (Nat.le_refl _), fun z => ?_, I2.nofs (Nat.le_refl _), fun v z => by cases z⟩
      exact absurd I2.lt (by rw [← z]; exact Nat.lt_irrefl _))
    refine cw_mw (i := "ValueError.__init__") (x := a) (he _) (hpl _) (thn (hA.run p3 _ _ _ _ _ I4 hq) fun us s5 ⟨vs5, H5, I5, r5, hz, ea5, q5⟩ => ⟨(I5.pin _ (List.mem_append_right _ (List.mem_singleton.mpr rfl))).1, ?_⟩)
    have hlen : us.length ≤ sizeLine := by
      rw [← Paired.length r5, sizeLine_eq]
      omega
    have I6 := I5.pins_of (pins' := []) (fun p hp => absurd hp (by simp))
    refine mw_call SC.ox I6 ea5 (I5.pin _ (List.mem_append_right _ (List.mem_singleton.mpr rfl))).1 hlen fun s7 I7 => ?_
    refine wpAt_of_wpAny (wpAny_mono (hS.run [] _ _ _ _ I7 q5) (fun fl s' hs => ?_) fun e s' hs => hs)
    have fin : ∀ {σ' : L2.St} {H' : Hp} {v : V} {u : Value}, L2.Inv (ncx CX P w K mg base N (sNF name qual params [] scope cc cda) f A outer s H E) [] σ' H' s' → L2.RelV v u → Q v H' → CE outer P w H s Q u s' :=
      fun {σ' H' v u} J rv q => ⟨v, H', J.os, J.bare, J.base, J.hok, rv, q⟩
    cases fl with
    | ret u =>
      obtain ⟨v, σ', H', J, rv, q⟩ := hs
      exact fin J rv q
    | next =>
      obtain ⟨σ', H', J, q⟩ := hs
      exact fin (v := V.non) (u := Value.none) J rfl q
    | brk =>
      obtain ⟨_, _, _, q⟩ := hs
      exact False.elim q
    | cont =>
      obtain ⟨_, _, _, q⟩ := hs
      exact False.elim q
end
end XcS
set_option Elab.async false
set_option linter.all false
set_option maxRecDepth 100000
set_option maxHeartbeats 4000000
/-! own: a caught exception of an own class (with or without a dict) kept beyond its suite: isinstance, fields -/
namespace XcH
open PySem PySem.Spec PyProof.Rows L2

/-- at a: a caught exception of the class cls with its dict at d -/
def ExT (cls : Value) (d : Option Addr) (a : Addr) : HO := .ext fun h => ∃ (oe : Obj) (vs : Array Value), h.get? a = some oe ∧ Zc cls d oe ∧ oe.data = .fields vs
theorem exT_ok {P : Program} {w : World} {H : Hp} {h : Heap} {a : Addr} {cls : Value} {d : Option Addr} {oe : Obj} {vs : Array Value} (e : h.get? a = some oe) (z : Zc cls d oe) (hd : oe.data = .fields vs) : ObjOk P w H h a (ExT cls d a) :=
  ⟨⟨oe, vs, e, z, hd⟩, ⟨oe, e⟩, fun _ _ ⟨o, v, q, r⟩ k => ⟨o, v, k o q, r⟩⟩
theorem exT_at {P : Program} {w : World} {H : Hp} {h : Heap} {a : Addr} {cls : Value} {d : Option Addr} (hok : HOk P w H h) (e : H a = some (ExT cls d a)) : ∃ (oe : Obj) (vs : Array Value), h.get? a = some oe ∧ Zc cls d oe ∧ oe.data = .fields vs := by
  obtain ⟨z, _, _⟩ := hok a _ e
  exact z

section
variable {X : Cx} {pins : List (Addr × Obj)} {σ : L2.St} {H : Hp} {s : Shared}
/-- an object that nothing tracked yet is tracked from now on -/
theorem track {a : Addr} {oe : Obj} {vs : Array Value} {o : HO} (I : Inv X pins σ H s) (ha : s.heap.get? a = some oe) (hd : oe.data = .fields vs) (na : H a = none) (nL : a ≠ X.env.locals) (new : X.s_0.heap.get? a = none) (np : ∀ p ∈ X.pn ++ pins, p.1 ≠ a)
    (ok : ObjOk X.prog X.w (upd H a o) s.heap a o) : Inv X pins σ (upd H a o) s := by
  refine ⟨I.ok, I.os, I.bare, ⟨I.base.keep, I.base.slot, fun b u e n hx => ?_, I.base.there, fun b xs e => ?_, fun b u v e => ?_, fun b ps e => ?_⟩, I.loc, I.cell, ?_, fun x c e => ?_, fun p hp => ?_, ?_, I.len⟩
  · rw [upd_ne (fun z => by rw [z, new] at e; cases e)]
    exact I.base.free b u e n hx
  · rw [upd_ne (ne_of_none (I.base.tups b xs e) na)]
    exact I.base.tups b xs e
  · rw [upd_ne (ne_of_none (I.base.frzs b u v e) na)]
    exact I.base.frzs b u v e
  · obtain ⟨m, q⟩ := I.base.tbls b ps e
    exact ⟨m, by rw [upd_ne (ne_of_none q na)]; exact q⟩
  · rw [upd_ne (Ne.symm nL)]
    exact I.free
  · rw [upd_ne (fun z => ?_)]
    · exact I.freeC x c e
    · obtain ⟨v, oc, hc, hcd⟩ := I.cell x c e
      rw [z, ha] at hc
      cases hc
      rw [hd] at hcd
      cases hcd
  · obtain ⟨e1, e2, e3⟩ := I.pin p hp
    exact ⟨e1, by rw [upd_ne (np p hp)]; exact e2, e3⟩
  · exact I.hok.laidN (fun _ _ q => q) na ok
theorem unsuiteK {a : Addr} {oe : Obj} (I : Inv (X.suite a ((a, oe) :: (X.pn ++ pins))) [] σ H s) (ok : X.Ok) : Inv X ((a, oe) :: pins) σ H s :=
  ⟨ok, I.os, I.bare, I.base, I.loc, I.cell, I.free, I.freeC, fun p hp => I.pin p (by
    rw [List.append_nil]
    rcases List.mem_append.mp hp with z | z
    · exact List.mem_cons_of_mem _ (List.mem_append_left _ z)
    · rcases List.mem_cons.mp z with z | z
      · rw [z]
        exact List.mem_cons_self
      · exact List.mem_cons_of_mem _ (List.mem_append_right _ z)), I.hok, I.len⟩
end

/-- what the clause «except x as n» wishes of an exception of the body; behind the suite the exception is tracked -/
def wKept (K : PySem.W.Frag) (nn : Nat) (c : Value) (i : Nat) (ts : Addr → Value → Option Addr → TS) (Wout : WX) (D : Ends) : WX := fun cls d σ H => σ.length = nn →
  ∃ b, PySem.W.exmOne K cls c = some b ∧ (b = true → ∀ a, H a = none → ts a cls d { nx := fun σ' H' => D.nx (σ'.set i none) (upd H' a (ExT cls d a)), rt := fun _ _ => False, bk := fun _ _ => False, ct := fun _ _ => False } (σ.set i (some (.ref a))) H) ∧
    (b = false → Wout cls d σ H)

section
variable {X : Cx} {x n : Str} {c : Value} {i : Nat} {body suite : List Stmt} {b₀ : Stmt} {np pos pos' : Pos} {tb : WX → TS} {ts : Addr → Value → Option Addr → TS} {Wout : WX}
theorem ps_try_kept (hs : X.stack = X.env :: X.outer) (hf : X.env.frame = some X.env.locals) (hex : X.ex = []) (hN : X.N.Nodup) (hi : X.N[i]? = some n) (hln : X.env.kindOf n = some .local) (hc : Names X x c) (tk : Takes X Wout)
    (hb : ∀ (W : WX) (pn : List (Addr × Obj)) (xe : Value → Shared → Prop), Takes (X.tr pn xe) W → PassesOwn (model X.prog X.w) X.A X.env xe → PSs (X.tr pn xe) body (tb W))
    (hsu : ∀ (a : Addr) (oe : Obj) (cls : Value) (d : Option Addr) (pn : List (Addr × Obj)), Zc cls d oe → (∃ vs, oe.data = .fields vs) → PSs (X.suite a ((a, oe) :: pn)) (b₀ :: suite) (ts a cls d)) :
    PS X (.Try body [.ExceptHandler (some (.Name x np)) (some n) (b₀ :: suite) pos'] [] [] pos) (fun D σ H => tb (wKept X.K X.N.length c i ts Wout D) D σ H) := by
  refine ⟨fun pins s σ H D I h => ?_⟩
  have ok := I.ok
  have hfr : X.A.frames = some (X.env :: X.outer) := by rw [ok.frames, hs]
  have hloc : Loc X.env.scope n := .inl hln
  refine wpAny_Try_except ?_
  refine wpAny_mono ((hb (wKept X.K X.N.length c i ts Wout D) (X.pn ++ pins) (fun e s₁ => wpAny (model X.prog X.w) X.A (noteFrame e X.env) (fun _ s₂ => wpAny (model X.prog X.w) X.A (setFlight e none) (fun _ s₃ =>
    wpAny (model X.prog X.w) X.A (handleBy e X.env [.ExceptHandler (some (.Name x np)) (some n) (b₀ :: suite) pos']) (SP X pins D) X.xe s₃) X.xe s₂) X.xe s₁) (fun u s' xx => ?_) PassesOwn.looking).run [] s σ H D (I.toTry _) h) (fun f s1 hsp => ?_) (fun e s1 he => he)
  · obtain ⟨a, B, sI, pins', σ', H', cls, d, rfl, J', nb, up, sky, na, os, ag, hw⟩ := xx
    have J : Inv X pins σ' H' sI := J'.ofTry ok
    obtain ⟨b, hb1, hyes, hno⟩ := hw J.len
    have sky' : Sky B (X.env :: X.outer) a (Zc cls d) X.env.locals s'.heap := by rw [← hs]; exact sky
    show wpAny (model X.prog X.w) X.A (noteFrame (.ref a) X.env) _ _ _
    refine Sky.land Zc.steady hfr hf sky' fun h3 fl3 up3 => ?_
    have J3 : Inv X pins σ' H' { s' with heap := h3 } := J.landed nb fl3.1 (up.trans up3) os ag
    obtain ⟨oe3, vs3, he3, hz3, hd3⟩ := fl3.there
    have notFr : ∀ {h : Heap} {o : Obj} {vs : Array Value}, h.FunFrames B (X.env :: X.outer) → h.get? a = some o → o.data = .fields vs → a ∉ frs (X.env :: X.outer) := fun {h o vs} ff e dd hm => by
      obtain ⟨_, o', e', hnf⟩ := ff.mem hm
      rw [e] at e'; cases e'
      exact hnf _ dd
    have nfr := notFr fl3.2.2.1 he3 hd3
    have nL : a ≠ X.env.locals := fun z => nfr (List.mem_filterMap.mpr ⟨X.env, List.mem_cons_self, by rw [hf, z]⟩)
    have nF : a ∉ X.fs := fun hm => by
      obtain ⟨e, he, q⟩ := List.mem_filterMap.mp hm
      exact nfr (List.mem_filterMap.mpr ⟨e, List.mem_cons_of_mem _ he, q⟩)
    have nB : B.get? a = none := fl3.2.1
    have stk : ∀ {b : Addr}, b ≠ X.env.locals → b ∉ X.fs → b ∉ frs X.stack := fun {b} h1 h2 hm => by
      rw [hs] at hm
      unfold frs at hm
      rw [List.filterMap_cons, hf] at hm
      rcases List.mem_cons.mp hm with z | z
      · exact h1 z
      · exact h2 z
    have nI : sI.heap.get? a = none := by
      cases z : sI.heap.get? a with
      | none => rfl
      | some o =>
        have y := nb a o z (stk nL nF)
        rw [nB] at y
        cases y
    have new0 : X.s_0.heap.get? a = none := by
      cases z : X.s_0.heap.get? a with
      | none => rfl
      | some o =>
        obtain ⟨o', y⟩ := J.base.there a o z (by rw [hex]; simp)
        rw [nI] at y
        cases y
    have npin : ∀ p ∈ X.pn ++ pins, p.1 ≠ a := fun p hp z => by
      have y := (J.pin p hp).1
      rw [z, nI] at y
      cases y
    have S3 := J3.suite he3 hd3 na nL nF
    refine wpAny_handleBy_cons (codeAny_handlers_test ?_) (by intro q; cases q)
    have LT : PySem.W.Looks (model X.prog X.w) h3 (typeOf (.ref a)) cls := fun A Q E s k q => wpAny_typeOf_ref (k _ _ he3) (by rw [hz3.1]; exact q)
    have LM := PySem.W.exm_one (M := model X.prog X.w) (J3.kIn) LT hb1
    have test : ∀ {Q : Value → Shared → Prop} {E : Value → Shared → Prop}, Q c { s' with heap := h3 } → wpAny (model X.prog X.w) (X.A.mark (some (.ref a))) (eval (.Name x np) X.env) Q E { s' with heap := h3 } := fun {Q E} q => by
      obtain ⟨hg, hdbg, hm | ⟨hm, hv, hnn⟩⟩ := hc
      · exact ld_glob (X := X.suite a ((a, oe3) :: (X.pn ++ pins))) S3 hg hm q hdbg
      · exact ld_blt (X := X.suite a ((a, oe3) :: (X.pn ++ pins))) S3 hg hm hv q hnn hdbg
    refine test (LM.here ?_)
    cases b with
    | true =>
      refine codeAny_handlers_suite_as ?_
      refine HandSPX.lands_againZ fl3 fun h4 fl4 up4 => ?_
      have J4 : Inv X pins σ' H' { s' with heap := h4 } := J.landed nb fl4.1 ((up.trans up3).trans up4) os ag
      obtain ⟨oe4, vs4, he4, hz4, hd4⟩ := fl4.there
      have S4 := J4.suite he4 hd4 na nL nF
      refine store_ok (X := X.suite a ((a, oe4) :: (X.pn ++ pins))) (v := .ref a) S4 hN hi hloc rfl (fun s5 S5 => ?_) (.inr hln)
      refine wpAny_mono ((hsu a oe4 cls d (X.pn ++ pins) hz4 ⟨_, hd4⟩).run [] s5 _ H' _ S5 (hyes rfl a na)) (fun f s6 hsp => ?_) (fun _ _ z => False.elim z)
      cases f with
      | next =>
        obtain ⟨σ6, H6, S6, q6⟩ := hsp
        refine gone_ok (unsuiteK S6 ok) hN hi hln fun s7 J7 => ⟨_, _, ?_, q6⟩
        obtain ⟨g1, g2, _⟩ := J7.pin (a, oe4) (List.mem_append_right _ List.mem_cons_self)
        refine track (J7.pins_of fun p hp => J7.pin p (List.mem_append_right _ (List.mem_cons_of_mem _ hp))) g1 hd4 g2 nL new0 npin (exT_ok g1 hz4 hd4)
      | brk =>
        obtain ⟨_, _, _, q6⟩ := hsp
        exact False.elim q6
      | cont =>
        obtain ⟨_, _, _, q6⟩ := hsp
        exact False.elim q6
      | ret u =>
        obtain ⟨_, _, _, _, _, q6⟩ := hsp
        exact False.elim q6
    | false =>
      show wpAny _ X.A (handleBy (.ref a) X.env []) _ _ _
      refine wpAny_handleBy_nil ?_
      obtain ⟨k1, k2, k3, oe, vs, T, oT, ts', he, hz, hd, h1, hr⟩ := id fl3
      unfold PySem.passOn
      refine wpAny_bind (wpAny_field he hd h1 ?_)
      rw [if_neg (show ¬ ((Value.ref T == Value.none) = true) from by simp)]
      have fin : wpAny (model X.prog X.w) X.A (setFlight (.ref a) X.env.frame) (fun _ s4 => wpAny (model X.prog X.w) X.A (throw (.ref a) : Sem Flow) (SP X pins D) X.xe s4) X.xe { s' with heap := h3 } := by
        rw [hf]
        refine HandSPX.setFlight_upZ fl3 fun h4 hh4 up4 => wpAny_throw (tk _ _ ?_)
        exact ⟨a, B, sI, pins, σ', H', cls, d, rfl, J, nb, (up.trans up3).trans up4, .inr (.inr (by rw [hs]; exact hh4)), na, os, ag, hno rfl⟩
      first
        | exact wpAny_bind (wpAny_pure (wpAny_bind fin))
        | exact wpAny_bind fin
  · cases f with
    | next =>
      obtain ⟨σ', H', J', q⟩ := hsp
      exact wpAny_execs_nil ⟨σ', H', J'.ofTry ok, q⟩
    | brk =>
      obtain ⟨σ', H', J', q⟩ := hsp
      exact ⟨σ', H', J'.ofTry ok, q⟩
    | cont =>
      obtain ⟨σ', H', J', q⟩ := hsp
      exact ⟨σ', H', J'.ofTry ok, q⟩
    | ret u =>
      obtain ⟨v, σ', H', J', r, q⟩ := hsp
      exact ⟨v, σ', H', J'.ofTry ok, r, q⟩
end
end XcH
set_option Elab.async false
set_option linter.all false
set_option maxRecDepth 100000
set_option maxHeartbeats 4000000
namespace XcH
open PySem PySem.Spec PyProof.Rows L2

section
open PySem.W PySem.Calls
variable {prog : Program} {w : World} {A : Around} {E : Value → Shared → Prop} {s : Shared} {K : Frag} {x D : Addr} {ox : Obj} {od : Option Obj}
theorem find_data {C : Addr} {name : Str} {a g : Value} (hc : (clsIn K C).isSome = true) (ha : findIn K (.ref C) name = some (some a)) (hg : specialIn K a "__get__" = some (some g)) (ht : takesIn K a = some true) : findObj K C od name = some (.bind g a) := by
  obtain ⟨cd, hc⟩ := Option.isSome_iff_exists.mp hc
  unfold findObj
  rw [hc, Option.bind_some, ha, Option.bind_some]
  simp [hg, ht]
/-- e.__class__ of an exception that may have a dict -/
theorem cls_of {Q : Option Value → Shared → Prop} (C : ExcC K D) (X : K.In s.heap) (I : InstAt s.heap x ox D od) (h : Q (some (.ref D)) { s with toks := s.toks + 1 }) : wpAny (model prog w) A (getAttr? (.ref x) "__class__") Q E s := by
  have hf : findObj K D od "__class__" = some (.bind (.builtin "getset_descriptor.__get__") (.builtin "object.__class__")) := find_data (by obtain ⟨cd, hc, _⟩ := any_some C.hd; rw [hc]; rfl) C.ha C.hn C.ht
  obtain ⟨hp, g, d, t, os⟩ := s
  have L0 := I.type (M := model prog w)
  have L1 := looks_findIn (M := model prog w) X C.hg
  have L2 := looks_findIn (M := model prog w) X C.hk
  have L3 := looks_find (M := model prog w) X I hf
  have sub : Looks (model prog w) hp (isInstance (.ref x) (.type "BaseException")) true := L0.andThen (looks_subIn X C.hs)
  have hx0 : (false && onTheHeap (Value.builtin "BaseException.__getattribute__")) = false := rfl
  have hx2 : (Value.builtin "BaseException.__getattribute__" == Value.builtin "object.__getattribute__") = false := by decide +kernel
  have hx1 : (onTheHeap (Value.ref D) && Value.builtin "BaseException.__getattribute__" == Value.builtin "object.__getattribute__") = false := by rw [hx2]; rfl
  unfold getAttr? getAttrBy? getAttrBy
  refine wpAny_bind (wpAny_mkText (wpAny_bind (wpAny_attempt (wpAny_holding (wpAny_bind (L0.at (wpAny_bind (L1.at ?_))))))))
  show wpAny _ _ (if (onTheHeap (Value.ref D) && Value.builtin "BaseException.__getattribute__" == Value.builtin "object.__getattribute__") = true then _ else _) _ _ _
  rw [hx1, if_neg Bool.false_ne_true]
  unfold getAttrByItsOwn hookBefore
  refine wpAny_bind ?_
  rw [if_pos (show onTheHeap (Value.ref D) = true from rfl)]
  refine L2.at ?_
  refine wpAny_bind (wpAny_attempt (wpAny_holding ?_))
  unfold callGetattribute
  rw [hx0, if_neg Bool.false_ne_true]
  unfold boundAndCalled
  rw [PySem.F.excAttr_ValueError.ga.bind (.ref x)]
  refine wpAny_bind (wpAny_pure ?_)
  show wpAny _ _ (call (.builtin "BaseException.__getattribute__") [.ref x, .str "__class__" t]) _ _ _
  refine wpAny_call (codeAny_call_builtin PySem.F.excAttr_ValueError.ga.plain PySem.F.entry_bexc_ga ?_)
  refine @check_slot (model prog w) _ _ ⟨hp, g, d, t + 1, os⟩ "BaseException.__getattribute__" "BaseException" "__getattribute__" (.ref x) [.str "__class__" t] [] _ (by decide +kernel) (by decide +kernel) sub (PySem.F.args_bexc_ga (.ref x) (.str "__class__" t)) ?_
  unfold Builtin.«object.__getattribute__»
  refine wpAny_bind (wpAny_of_eq (a := ((Value.ref x : Value), [Value.str "__class__" t])) (by first | rfl | (simp only [slotArgs]; rfl)) ?_)
  refine wpAny_bind (wpAny_pure (wpAny_bind (L0.at (wpAny_bind (L3.at ?_)))))
  show wpAny _ _ (holding [Value.builtin "object.__class__"] (call (.builtin "getset_descriptor.__get__") [.builtin "object.__class__", .ref x, .ref D]) >>= ret) _ _ _
  refine wpAny_bind (wpAny_holding (wpAny_call (class_get (s := ⟨hp, g, d, t + 1, os⟩) (ox := ox) (od := od) X I C.hm ?_)))
  refine wpAny_pure ?_
  show wpAny _ _ (handedOut (.ref D)) _ _ _
  rw [handedOut_of (v := .ref D) rfl]
  first
    | exact wpAny_pure (wpAny_pure h)
    | exact wpAny_pure h
    | exact wpAny_pure (wpAny_bind (wpAny_pure (wpAny_pure h)))
theorem kit_exc (C : ExcC K D) : KitX K (.ref x) (.ref D) (fun h => ∃ ox od, InstAt h x ox D od) where
  ty := fun _ _ _ ⟨_, _, I⟩ => I.type
  it := fun _ _ X _ => by
    obtain ⟨cdD, hcD, _⟩ := any_some C.hd
    unfold clsIn at hcD
    split at hcD
    · rename_i c' d' cd' sl' ho
      intro A' Q' E' s' k q
      unfold isType loadHead
      exact wpAny_bind (wpAny_loadPart (k _ _ (X _ _ ho)) (wpAny_pure q))
    · cases hcD
  ne := fun h tp dd its n sl X htp => by
    obtain ⟨cdD, hcD, _⟩ := any_some C.hd
    refine Bool.eq_false_iff.mpr fun q => ?_
    have e : D = tp := Value.ref.inj (beq_iff_eq.mp q)
    subst e
    unfold clsIn at hcD
    split at hcD
    · rename_i c' d' cd' sl' ho
      have z := (X _ _ ho).symm.trans htp
      cases z
    · cases hcD
  ca := fun X ⟨_, _, I⟩ k => cls_of C X I k
end

section
variable {X : Cx} {pins : List (Addr × Obj)} {σ : L2.St} {H : Hp} {s : Shared}
/-- it as an instance of its class: its dict is tracked -/
theorem inst_at {a D dd : Addr} {fs : List (Str × V)} (I : Inv X pins σ H s) (e : H a = some (ExT (.ref D) (some dd) a)) (ed : H dd = some (.xd fs)) : ∃ ox od, PySem.W.InstAt s.heap a ox D (some od) ∧ ∃ mA, s.heap.Ns1 dd mA ∧ s.heap.get? dd = some od ∧ ∀ f, RelO (fs.lookup f) (mA f) := by
  obtain ⟨oe, vs, h1, h2, h3⟩ := exT_at I.hok e
  have hx : ObjOk X.prog X.w H s.heap dd (.xd fs) := I.hok dd _ ed
  obtain ⟨mA, hns, hr⟩ := hx
  obtain ⟨od, es, ep, ho, q⟩ := id hns
  exact ⟨oe, od, ⟨h1, h2.1, by unfold PySem.W.notCls; rw [h3] <;> rfl, by rw [h2.2]; exact ho⟩, mA, hns, ho, hr⟩
/-- isinstance(e, c) of a kept exception -/
def rIsX (K : PySem.W.Frag) : List V → Hp → VK → Prop := fun xs H Q => ∃ (a D dd : Addr) (fs : List (Str × V)) (c : V) (cv : Value) (b : Bool), xs = [.ref a, c] ∧ H a = some (ExT (.ref D) (some dd) a) ∧ H dd = some (.xd fs) ∧ ExcC K D ∧ (∀ u, RelV c u → u = cv) ∧
  PySem.W.kitOne K (.ref D) cv = some b ∧ Q (.bl b) H
theorem call_isX : CallR X (.builtin "isinstance") (rIsX X.K) := by
  intro pins s σ H xs us Q I r h
  obtain ⟨a, D, dd, fs, c, cv, b, rfl, ea, ed, C, hcv, e, q⟩ := h
  cases r with
  | cons rx rr =>
    cases rr with
    | cons rt rr =>
      cases rr
      cases rx
      have ec := hcv _ rt
      subst ec
      obtain ⟨ox, od, J, _⟩ := inst_at I ea ed
      exact PySem.W.kia_one (kit_exc C) I.kIn ⟨_, _, J⟩ e (fun z => nomatch z) fun tk => ⟨.bl b, H, I.kept (t' := tk) fun _ _ z => z, rfl, q⟩
/-- e.f of a kept exception -/
def tXg (K : PySem.W.Frag) (f : Str) (te : TE) : TE := fun σ H Q => te σ H fun x H1 => ∃ (a C dd : Addr) (fs : List (Str × V)) (v : V), x = .ref a ∧ H1 a = some (ExT (.ref C) (some dd) a) ∧ H1 dd = some (.xd fs) ∧ XfC K C ∧ PySem.W.findIn K (.ref C) f = some none ∧ fs.lookup f = some v ∧ Q v H1
theorem pe_xg {e : Expr} {te : TE} {pos : Pos} {n : Str} (he : PE X e te) (hb : attributeBase e n X.env (eval e X.env) = eval e X.env := by rfl) : PE X (.Attribute e n pos) (tXg X.K n te) := by
  refine ⟨fun pins s σ H Q I h => ?_⟩
  refine attr_of hb (thn (he.run pins s σ H _ I h) fun u s1 hh => ?_)
  obtain ⟨x, H1, I1, rx, a, C, dd, fs, v, ex, ea, ed, T, hno, l, q⟩ := hh
  subst ex
  obtain rfl : u = Value.ref a := rx
  obtain ⟨ox, od, J, mA, hns, ho, hr⟩ := inst_at I1 ea ed
  obtain ⟨od', ho', hl⟩ := lookIn_ns hns
  rw [ho] at ho'
  cases ho'
  obtain ⟨u, hu, ru⟩ := RelO.some_of (v := v) (o := mA n) (by rw [← l]; exact hr n)
  exact HandSPX.exc_get I1.kIn J T.ga T.gg T.exC (PySem.W.findObj_own T.hdC hno rfl (by rw [hl, hu])) (handed_of ru) ⟨v, H1, I1.tok _, ru, q⟩
end
end XcH
set_option Elab.async false
set_option linter.all false
set_option maxRecDepth 100000
set_option maxHeartbeats 4000000
/-! own: «lambda a=0: body» (one parameter with a whole number as default) and «lambda: body», handed to a def that calls it without arguments -/
namespace LamD
open PySem PySem.Spec PyProof.Rows L2 LamX

section
variable {X : Cx} {pins : List (Addr × Obj)} {σ : L2.St} {H : Hp} {s : Shared}
/-- a function object of a lambda is made: what was there and not tracked stays so -/
theorem lam_tail {dV : Value} {T : List (Addr × Str)} {c P : Addr} {params : Arguments} {body : Expr} {scope : Scope} {pos : Pos} {E : Value → Shared → Prop} {Q : Value → Shared → Prop} (I : Inv X pins σ H s) (TB : TabB X.base X.mg c P) (hcode : X.env.code = .ref c)
    (hm : (P, X.env.qual ++ "<lambda>") ∈ T) (hu : ∀ p ∈ T, p.1 = P → p.2 = X.env.qual ++ "<lambda>") (hT : Tabs T H) (hfree : ∀ y ∈ scope.names, y.2 = .free → ∃ c, X.env.cells.lookup y.1 = some c)
    (h : ∀ (f c' : Addr) (doc pm ctv : Value) (H1 : Hp) (s' : Shared), Inv X pins σ H1 s' → ExtN H H1 → Tabs T H1 → (∀ b o, s.heap.get? b = some o → H b = none → s'.heap.get? b = some o ∧ H1 b = none) →
      s'.heap.get? f = some (PySem.W.kdv_obj "<lambda>" (X.env.qual ++ "<lambda>") params (.expr body) scope (cloFrom X.env.cells scope.names []) dV doc pm c' ctv) → H1 f = none → f ∉ frs X.stack → H1 c' = some (CodeO c' (X.env.qual ++ "<lambda>")) → Q (.ref f) s') :
    wpAny (model X.prog X.w) X.A (makeTail "<lambda>" (X.env.qual ++ "<lambda>") params (.expr body) scope X.env dV .none none pos pos.line) Q E s := by
  obtain ⟨ps, hP, ht, ha⟩ := hT _ hm
  have bP : s.heap.BuiltinsAt X.mg P := TB.bm.keeps I.bk
  have hP' : s.heap.get? P = some { cls := .none, data := .fields ps } := I.hok P _ hP
  have nofr : ∀ f, s.heap.objs.size ≤ f → f ∉ frs X.stack := fun f hf z => by
    rcases List.mem_cons.mp (I.stkSub _ z) with e | e
    · have h1 := I.lt
      rw [← e] at h1
      exact Nat.lt_irrefl _ (Nat.lt_of_lt_of_le h1 hf)
    · exact I.nofs hf e
  cases hc : codeAmong pos ps.toList with
  | none =>
    refine PySem.W.kdv_makeTail (mg := X.mg) (c := c) (P := P) (ps := ps) (closure_ok hfree) I.ok.glob (I.mod.glob.keeps I.bk) hcode (TB.code.keeps I.bk) hP' ht hc TB.gP bP fun c' ctv doc h' tk hx hge hlt hrec htb => ?_
    obtain ⟨c2, oc, vs, t, e2, hoc, hd, hv⟩ := hrec
    cases e2
    have hsz : s.heap.objs.size ≤ h'.objs.size := Nat.le_trans hge (Nat.le_of_lt hlt)
    have nC : H c' = none := I.hok.fresh hge
    have I1 := inv_table (t' := tk) (more := #[rawInt pos.line, rawInt pos.col, .ref c']) (h' := h'.push (PySem.W.kdv_obj "<lambda>" (X.env.qual ++ "<lambda>") params (.expr body) scope (cloFrom X.env.cells scope.names []) dV doc ((X.mg "__name__").getD .none) c' ctv)) I hP
      (fun b o hb e => Heap.get?_push_of_some _ (hx b o hb e)) (Heap.get?_push_of_some _ htb) hge ⟨oc, vs, t, Heap.get?_push_of_some _ hoc, hd, hv⟩
    have hE : ExtN H (upd (upd H P (.tbl (ps ++ #[rawInt pos.line, rawInt pos.col, .ref c']))) c' (CodeO c' (X.env.qual ++ "<lambda>"))) := fun b o e n => by
      rw [upd_ne (ne_of_none e nC), upd_ne (fun z => n ps (Option.some.inj (e.symm.trans (by rw [z]; exact hP))))]
      exact e
    have eL : (ps ++ #[rawInt pos.line, rawInt pos.col, .ref c']).toList = ps.toList ++ [rawInt pos.line, rawInt pos.col, .ref c'] := by simp
    refine h h'.objs.size c' doc ((X.mg "__name__").getD .none) ctv _ _ I1 hE (fun p hp => ?_) (fun b o e n => ?_) (Heap.get?_push_size _ rfl) ?_ (nofr _ hsz) upd_same
    · by_cases hb : p.1 = P
      · rw [hu p hp hb, hb]
        refine ⟨_, by rw [upd_ne (ne_of_none hP nC), upd_same], by rw [eL]; exact PySem.TriplesOk_snoc _ _ _ _ ht, fun p' cv hcv => ?_⟩
        rw [eL] at hcv
        rcases among_app _ ht hcv with z | z
        · obtain ⟨c0, e1, e2⟩ := ha p' cv z
          exact ⟨c0, e1, hE _ _ e2 codeO_ne⟩
        · exact ⟨c', z, upd_same⟩
      · obtain ⟨ps', a1, a2, a3⟩ := hT p hp
        refine ⟨ps', by rw [upd_ne (ne_of_none a1 nC), upd_ne hb]; exact a1, a2, fun p' cv hcv => ?_⟩
        obtain ⟨c0, e1, e2⟩ := a3 p' cv hcv
        exact ⟨c0, e1, hE _ _ e2 codeO_ne⟩
    · have nP : b ≠ P := fun z => by
        rw [z, hP] at n
        cases n
      have nc : b ≠ c' := fun z => by
        rw [z] at e
        exact Nat.lt_irrefl _ (Nat.lt_of_lt_of_le (Heap.lt_size e) hge)
      exact ⟨Heap.get?_push_of_some _ (hx b o nP e), by rw [upd_ne nc, upd_ne nP]; exact n⟩
    · have n1 : h'.objs.size ≠ c' := Nat.ne_of_gt hlt
      have n2 : h'.objs.size ≠ P := Nat.ne_of_gt (Nat.lt_of_lt_of_le (Heap.lt_size hP') hsz)
      rw [upd_ne n1, upd_ne n2]
      exact I.hok.fresh hsz
  | some cv =>
    obtain ⟨c', e, hco⟩ := ha pos cv hc
    subst e
    refine PySem.W.kdv_makeTailHit (mg := X.mg) (c := c) (P := P) (ps := ps) (closure_ok hfree) I.ok.glob (I.mod.glob.keeps I.bk) hcode (TB.code.keeps I.bk) hP' ht hc bP fun ctv doc h' tk hx hsz => ?_
    have I1 : Inv X pins σ H { s with heap := h'.push (PySem.W.kdv_obj "<lambda>" (X.env.qual ++ "<lambda>") params (.expr body) scope (cloFrom X.env.cells scope.names []) dV doc ((X.mg "__name__").getD .none) c' ctv), toks := tk } := I.kept fun b o e => Heap.get?_push_of_some _ (hx b o e)
    exact h h'.objs.size c' doc ((X.mg "__name__").getD .none) ctv H _ I1 (ExtN.refl H) hT (fun b o e n => ⟨Heap.get?_push_of_some _ (hx b o e), n⟩) (Heap.get?_push_size _ rfl) (I.hok.fresh hsz) (nofr _ hsz) hco
/-- «lambda a=n: body» -/
theorem lam_make1 {T : List (Addr × Str)} {c P : Addr} {params : Arguments} {body : Expr} {scope : Scope} {pos dp : Pos} {n : Int} {j : Nat} {E : Value → Shared → Prop} {Q : Value → Shared → Prop} (I : Inv X pins σ H s) (TB : TabB X.base X.mg c P) (hcode : X.env.code = .ref c)
    (hm : (P, X.env.qual ++ "<lambda>") ∈ T) (hu : ∀ p ∈ T, p.1 = P → p.2 = X.env.qual ++ "<lambda>") (hT : Tabs T H) (hdef : defaultsOf params X.env = ([eval (.Constant (.int n) j dp) X.env], [])) (hkw : params.kwonlyargs = []) (hfree : ∀ y ∈ scope.names, y.2 = .free → ∃ c, X.env.cells.lookup y.1 = some c)
    (h : ∀ (f c' Ta : Addr) (td : Tok) (doc pm ctv : Value) (H1 : Hp) (s' : Shared), Inv X pins σ H1 s' → ExtN H H1 → Tabs T H1 →
      s'.heap.get? f = some (PySem.W.kdv_obj "<lambda>" (X.env.qual ++ "<lambda>") params (.expr body) scope (cloFrom X.env.cells scope.names []) (.ref Ta) doc pm c' ctv) → H1 f = none → f ∉ frs X.stack →
      s'.heap.get? Ta = some (PySem.W.kdv_tup [.int n td]) → H1 Ta = none → Ta ∉ frs X.stack → H1 c' = some (CodeO c' (X.env.qual ++ "<lambda>")) → Q (.ref f) s') :
    wpAny (model X.prog X.w) X.A (eval (.Lambda params body scope pos) X.env) Q E s := by
  rw [arm_eval_Lambda, hdef]
  show wpAny _ _ (do let dv ← evalAll [eval (.Constant (.int n) j dp) X.env]; let kdv ← holding dv (evalAllOpt []); makeFunction "<lambda>" (X.env.qual ++ "<lambda>") params (.expr body) scope X.env dv kdv [] pos pos.line) Q E s
  refine wpAny_bind (evalAll_cons (wpAny_Constant_int (evalAll_nil ?_)))
  refine wpAny_bind (wpAny_holding (wpAny_pure ?_))
  rw [makeFunction_eq]
  simp only [List.zip_nil_right, List.filterMap_nil, List.isEmpty_nil, List.isEmpty_cons, Bool.false_eq_true, if_true, if_false, pure_bind]
  refine wpAny_bind (wpAny_newTextTuple ?_)
  have I0 : Inv X pins σ H { s with heap := s.heap.push (PySem.W.kdv_tup [.int n s.toks]), toks := s.toks + 1 } := I.kept (t' := s.toks + 1) fun b o e => Heap.get?_push_of_some _ e
  refine lam_tail I0 TB hcode hm hu hT hfree fun f c' doc pm ctv H1 s' I1 eN T1 kp hf hfn hfr hco => ?_
  have hTa : (s.heap.push (PySem.W.kdv_tup [.int n s.toks])).get? s.heap.objs.size = some (PySem.W.kdv_tup [.int n s.toks]) := Heap.get?_push_size _ rfl
  obtain ⟨g1, g2⟩ := kp _ _ hTa (I.hok.fresh (Nat.le_refl _))
  refine h f c' s.heap.objs.size s.toks doc pm ctv H1 s' I1 eN T1 hf hfn hfr g1 g2 (fun z => ?_) hco
  rcases List.mem_cons.mp (I.stkSub _ z) with e | e
  · have h1 := I.lt
    rw [← e] at h1
    exact Nat.lt_irrefl _ h1
  · exact I.nofs (Nat.le_refl _) e
end
end LamD
set_option Elab.async false
set_option linter.all false
set_option maxRecDepth 100000
set_option maxHeartbeats 4000000
namespace LamD
open PySem PySem.Spec PyProof.Rows L2 LamX

/-- its own names (parameters) are no names of the maker; captured ones are the maker's -/
structure LamS1 (N : List Str) (sc scope : Scope) (a1 : Str) : Prop where
  kind : scope.kind = .function
  co : scope.isCoroutine = false
  gen : scope.isGenerator = false
  loc : scope.names.lookup a1 = some .local
  own : ∀ y ∈ scope.names, y.2 ≠ .cell ∧ (y.2 = .local → y.1 ∉ N)
  free : ∀ y ∈ scope.names, y.2 = .free → sc.names.lookup y.1 = some .cell ∨ sc.names.lookup y.1 = some .free
def lamS1B (N : List Str) (sc scope : Scope) (a1 : Str) : Bool :=
  decide (scope.kind = .function) && !scope.isCoroutine && !scope.isGenerator && decide (scope.names.lookup a1 = some .local) && scope.names.all fun y => !decide (y.2 = .cell) && (!decide (y.2 = .local) || !decide (y.1 ∈ N)) && (!decide (y.2 = .free) || decide (sc.names.lookup y.1 = some .cell) || decide (sc.names.lookup y.1 = some .free))
theorem lamS1_by {N : List Str} {sc scope : Scope} {a1 : Str} (h : lamS1B N sc scope a1 = true) : LamS1 N sc scope a1 := by
  unfold lamS1B at h
  simp only [Bool.and_eq_true, Bool.or_eq_true, Bool.not_eq_true', decide_eq_true_eq, decide_eq_false_iff_not, List.all_eq_true] at h
  obtain ⟨⟨⟨⟨h1, h2⟩, h3⟩, h5⟩, h4⟩ := h
  refine ⟨h1, h2, h3, h5, fun y hy => ⟨(h4 y hy).1.1, fun e => ?_⟩, fun y hy e => ?_⟩
  · rcases (h4 y hy).1.2 with z | z
    · exact absurd e z
    · exact z
  · rcases (h4 y hy).2 with (z | z) | z
    · exact absurd e z
    · exact .inl z
    · exact .inr z
theorem LamS1.has {X : Cx} {N : List Str} {scope : Scope} {a1 : Str} (L : LamS1 N X.env.scope scope a1) (ok : X.Ok) : ∀ y ∈ scope.names, y.2 = .free → ∃ c, X.env.cells.lookup y.1 = some c := fun y hy e => by
  rcases L.free y hy e with k | k
  · exact ok.has _ (.inl k)
  · exact ok.has _ (.inr k)
section
variable {X : Cx} {pins : List (Addr × Obj)} {σ : L2.St} {H HZ : Hp} {s s1 : Shared}
theorem lam_start1 {A : Around} {outer : List Env} {E : XK} {scope : Scope} {f c' : Addr} {h₁ : Heap} {tk : Nat} {a1 : Str} {m1 : Str → Option Value} (I : Inv X pins σ H s) (L : LamS1 X.N X.env.scope scope a1) (e0 : Env0 X.prog X.w X.K X.mg X.base A outer s1 HZ) (hd : A.handled = none)
    (un : Un (frs X.stack) [] H HZ s.heap s1.heap) (hns : h₁.Ns s1.heap.objs.size m1) (kp : ∀ b o, s1.heap.get? b = some o → h₁.get? b = some o) :
    Inv (lamCx X A outer s1 HZ E scope f c') [] σ HZ { s1 with heap := h₁, toks := tk } := by
  have hfree := L.has I.ok
  have cm : ∀ {y c}, (cloFrom X.env.cells scope.names []).lookup y = some c → X.env.cells.lookup y = some c := fun {y c} e => by
    rcases cloFrom_mem (PySem.mem_of_lookup e) with hm | ⟨h1, h2⟩
    · cases hm
    · obtain ⟨c1, hc⟩ := hfree _ h1 rfl
      have hc : X.env.cells.lookup y = some c1 := hc
      have e2 : c = c1 := by
        rw [h2, hc] <;> rfl
      rw [e2]
      exact hc
  have look : ∀ {y}, scope.names.lookup y = some .free → ∃ c, (cloFrom X.env.cells scope.names []).lookup y = some c := fun {y} hl => by
    have hy : (y, NameKind.free) ∈ scope.names := PySem.mem_of_lookup hl
    exact mem_lookup (cloFrom_has (cells := X.env.cells) (acc := []) hy)
  have cellK : ∀ {c : Addr} {v : Option Value}, H c = none → s.heap.IsCell c v → h₁.IsCell c v := fun {c v} n ⟨o, ho, hd⟩ => by
    obtain ⟨sl, q⟩ := un.any ho n (by simp)
    exact ⟨_, kp _ _ q, hd⟩
  have noA : ∀ b : Addr, b ∉ (lamCx X A outer s1 HZ E scope f c').ex := fun b z => absurd (show b ∈ ([] : List Addr) from z) (by simp)
  refine ⟨⟨e0.mod, L.kind, rfl, rfl, Nat.le_refl _, fun y z c e1 e2 => I.ok.inj y z c (cm e1) (cm e2), fun y hy => ?_, fun y c z _ => ?_, fun _ => hd, Around.frames_deeper e0.frames, .inr ⟨rfl, rfl⟩, fun b z => absurd z (noA b), e0.bs, e0.bsz, fun b _ _ => noA b,
      fun b z => absurd z (noA b), e0.funs, e0.frf⟩,
    rfl, e0.bare, Un.kept kp, ⟨_, hns, fun i y v e1 e2 e3 => ?_⟩, fun y c e => ?_, e0.hok.fresh (Nat.le_refl _), fun y c e => ?_, fun q hq => absurd (show q ∈ ([] : List (Addr × Obj)) ++ [] from hq) (by simp), e0.hok.kept kp, I.len⟩
  · have hy : scope.names.lookup y = some .cell ∨ scope.names.lookup y = some .free := hy
    rcases hy with hy | hy
    · exact absurd rfl (L.own _ (PySem.mem_of_lookup hy)).1
    · exact look hy
  · have z : false = true := z
    cases z
  · have e3 : Vis scope y := e3
    have e1 : X.N[i]? = some y := e1
    rcases e3 with k | k | k
    · exact absurd (List.mem_of_getElem? e1) ((L.own _ (PySem.mem_of_lookup k)).2 rfl)
    · exact absurd rfl (L.own _ (PySem.mem_of_lookup k)).1
    · obtain ⟨m, hn, hl⟩ := I.loc
      have hvis : Vis X.env.scope y := (L.free _ (PySem.mem_of_lookup k) rfl).elim (fun k => .inr (.inl k)) (fun k => .inr (.inr k))
      obtain ⟨w', r, q⟩ := hl i y v e1 e2 hvis
      obtain ⟨c2, h2⟩ := look k
      refine ⟨w', r, .inr ⟨.inr k, c2, h2, ?_⟩⟩
      have c1 := cm h2
      rcases q with ⟨k', _⟩ | ⟨_, c3, e', z⟩
      · have k' : X.env.scope.names.lookup y = some .local := k'
        rcases L.free _ (PySem.mem_of_lookup k) rfl with k2 | k2 <;> rw [show X.env.scope.names.lookup y = _ from k2] at k' <;> cases k'
      · rw [c1] at e'
        cases e'
        exact cellK (I.freeC y _ c1) z
  · obtain ⟨w', z⟩ := I.cell y c (cm e)
    exact ⟨w', cellK (I.freeC y c (cm e)) z⟩
  · obtain ⟨v, o, ho, hd⟩ := I.cell y c (cm e)
    exact un.free c o ho (I.freeC y c (cm e)) (by simp)
/-- how its one parameter is bound by its default -/
def Binds1 (params : Arguments) (body : Expr) (scope : Scope) (a1 : Str) (n : Int) : Prop := ∀ (q : Str) (cl : List (Str × Addr)) (T : Addr) (doc pm cv ctv : Value), ∃ k,
  bindArgs (PySem.W.kdv_fn "<lambda>" q params (.expr body) scope cl (.ref T) doc pm cv ctv) ⟨[], []⟩ = seqItems? (.ref T) >>= k ∧ ∀ td : Tok, k (some #[.int n td]) = pure [(a1, .int n td)]
/-- x(), in the def that got the lambda -/
theorem pe_act1 {CXg : CXT} {Eg : XK} {Ng : List Str} {qg : Str} {sg : Scope} {g f c' Ta : Addr} {cdg doc pm ctv : Value} {params : Arguments} {body : Expr} {scope : Scope} {k i : Nat} {a a1 : Str} {n : Int} {td : Tok} {pn : List (Addr × Obj)} {xe : Value → Shared → Prop} {W : WX} {E : XK} {tb : TE} {p1 p2 : Pos}
    (I : Inv X pins σ H s) (L : LamS1 X.N X.env.scope scope a1) (hf : s.heap.get? f = some (PySem.W.kdv_obj "<lambda>" (X.env.qual ++ "<lambda>") params (.expr body) scope (cloFrom X.env.cells scope.names []) (.ref Ta) doc pm c' ctv)) (hfn : H f = none) (hfr : f ∉ frs X.stack)
    (hT : s.heap.get? Ta = some (PySem.W.kdv_tup [.int n td])) (hTn : H Ta = none) (hTr : Ta ∉ frs X.stack) (hbind : Binds1 params body scope a1 n)
    (tk : Takes ((cxOf CXg X.prog X.w X.K X.mg X.base Ng qg sg g cdg X.A X.stack s H Eg).tr pn xe) W) (hW : ∀ cls d σ' H', E cls d H' → W cls d σ' H') (hr : Room (k + 1) (X.A.deeper (envOfC qg sg s.heap.objs.size g cdg)))
    (hbody : ∀ (A : Around) (outer : List Env) (s : Shared) (H : Hp), Room k (A.deeper (lamEnv X scope s.heap.objs.size f c')) → PE (lamCx X A outer s H E scope f c') body tb)
    (hN : Ng[i]? = some a) (hv : Vis sg a) (hd : (a == ("__debug__" : Str)) = false := by decide) (hcd : (a == ("__classdict__" : Str)) = false := by decide) :
    PE ((cxOf CXg X.prog X.w X.K X.mg X.base Ng qg sg g cdg X.A X.stack s H Eg).tr pn xe) (.Call (.Name a p1) [] [] p2)
      (fun σZ HZ Q => σZ[i]? = some (some (.ref f)) ∧ HZ c' = some (CodeO c' (X.env.qual ++ "<lambda>")) ∧ tb σ HZ Q) := by
  refine ⟨fun pinsZ sZ σZ HZ Q IZ h => ?_⟩
  obtain ⟨hs, hc, ht⟩ := h
  refine wpAny_Call_Name_kw (thn ((pe_var (pos := p1) (i := i) hN hv hd hcd).run pinsZ sZ σZ HZ (fun v H1 => v = .ref f ∧ H1 = HZ) IZ ⟨.ref f, hs, rfl, rfl⟩) fun u s1 ⟨v, H1, I1, r1, q1⟩ => ?_)
  obtain ⟨ev, eH⟩ := q1
  subst ev
  rw [eH] at I1
  obtain rfl : u = Value.ref f := r1
  have of1 : s1.heap.get? f = some (PySem.W.kdv_obj "<lambda>" (X.env.qual ++ "<lambda>") params (.expr body) scope (cloFrom X.env.cells scope.names []) (.ref Ta) doc pm c' ctv) := I1.base.keep f _ hf hfn hfr (fun z => nomatch (show f ∈ ([] : List Addr) from z))
  have oT1 : s1.heap.get? Ta = some (PySem.W.kdv_tup [.int n td]) := I1.base.keep Ta _ hT hTn hTr (fun z => nomatch (show Ta ∈ ([] : List Addr) from z))
  refine PySem.W.callWith_F0 ⟨_, _, _, _, of1⟩ ?_
  have un : Un (frs X.stack) [] H HZ s.heap s1.heap := I1.base
  obtain ⟨⟨oc, vs, t, hoc, hdc, hvc⟩, _, _⟩ := I1.hok c' _ hc
  have rc : codeAny (model X.prog X.w) (X.A.deeper (envOfC qg sg s.heap.objs.size g cdg)) (.call (.ref f) ⟨[], []⟩) (CR (L2.CX X.prog X.w) (envOfC qg sg s.heap.objs.size g cdg :: X.stack) X.prog X.w HZ s1 Q E) s1 := by
    refine PySem.W.kla_callFunE hr.depth of1 rfl L.co L.gen rfl ⟨c', oc, vs, t, rfl, hoc, hdc, hvc⟩ ?_
    obtain ⟨kk, e1, e2⟩ := hbind (X.env.qual ++ "<lambda>") (cloFrom X.env.cells scope.names []) Ta doc pm (.ref c') ctv
    rw [e1]
    refine wpAny_bind (wpAny_seqItems oT1 rfl ?_)
    rw [show (#[Value.int n td] : Array Value) = [Value.int n td].toArray from rfl] at *
    rw [e2 td]
    refine wpAny_pure (wpAny_newFunctionEnv (fun y hy => (L.own y hy).1) (fun y hy => ?_) (fun h₁ hns hsb => ⟨I1.nolimit.fresh _ hsb, ?_⟩) L.kind)
    · rw [List.mem_singleton] at hy
      rw [hy]
      exact L.loc
    show codeAny _ _ (.expr body (lamEnv X scope s1.heap.objs.size f c')) _ _
    have kp : ∀ b o, s1.heap.get? b = some o → h₁.get? b = some o := fun b o e => hsb.extBut b o (Nat.ne_of_lt (Heap.lt_size e)) (Heap.get?_push_of_some _ e)
    have J : Inv (lamCx X (X.A.deeper (envOfC qg sg s.heap.objs.size g cdg)) (envOfC qg sg s.heap.objs.size g cdg :: X.stack) s1 HZ E scope f c') [] σ HZ { s1 with heap := h₁, toks := s1.toks + [(a1, Value.int n td)].length } :=
      lam_start1 I L I1.env0 hr.hd un hns kp
    refine PySem.W.kla_codeExpr (wpAny_mono ((hbody _ _ s1 HZ (hr.deeper _)).run [] _ _ HZ Q J ht) (fun v s' hq => ?_) fun e s' hq => hq)
    obtain ⟨w', H', J', rv, q⟩ := hq
    exact ⟨w', H', J'.os, J'.bare, J'.base, J'.hok, rv, q⟩
  have hx : Passes (L2.CX X.prog X.w) ((cxOf CXg X.prog X.w X.K X.mg X.base Ng qg sg g cdg X.A X.stack s H Eg).tr pn xe) E := passes_call tk hW
  refine wpAny_call (codeAny_mono rc fun r s' hq => ?_)
  cases r with
  | error e => exact hx pinsZ σZ HZ s1 e s' I1 hq
  | ok fl =>
    cases fl with
    | ret u => exact I1.after hq
    | next => exact False.elim hq
    | brk => exact False.elim hq
    | cont => exact False.elim hq
/-- x(lambda a1=n: body) -/
theorem pe_lamcall1 {T : List (Addr × Str)} {TT : (XK → Hp → VK → Prop) → Hp → VK → Prop} {x a a1 : Str} {n : Int} {jn : Nat} {dp : Pos} {g c P : Addr} {k : Nat} {pg : Arguments} {bg : List Stmt} {sg : Scope} {dV kV doc pm cdv ct oc : Value} {an od : Option Addr} {osl : Array (Option Value)} {Ng : List Str}
    {params : Arguments} {body : Expr} {scope : Scope} {t : XK → TE} {p lpos pos : Pos} (hg : Gl X x) (hm : X.mg x = some (.ref g)) (hk : PySem.W.keepIn X.K (.ref g) = true)
    (lk : X.K.lookup g = some ⟨oc, od, .func (PySem.W.fnOf x x pg bg sg dV kV doc pm an cdv ct), osl⟩) (hcg : PySem.W.codeIn X.K cdv x = true) (hb : L2.Binds X.K (PySem.W.fnOf x x pg bg sg dV kV doc pm an cdv ct) [a] []) (Sg : FnScope Ng [a] sg) (hNg : Ng[0]? = some a) (hva : Vis sg a)
    (hG : GivesTo X Ng x sg g cdv bg a (X.env.qual ++ "<lambda>") TT)
    (TB : TabB X.base X.mg c P) (hcode : X.env.code = .ref c) (hmT : (P, X.env.qual ++ "<lambda>") ∈ T) (hu : ∀ p ∈ T, p.1 = P → p.2 = X.env.qual ++ "<lambda>") (hr : Room (k + 2) X.A) (L : LamS1 X.N X.env.scope scope a1) (hdef : defaultsOf params X.env = ([eval (.Constant (.int n) jn dp) X.env], [])) (hkw : params.kwonlyargs = [])
    (hbind : Binds1 params body scope a1 n)
    (hbody : ∀ (A : Around) (outer : List Env) (s : Shared) (H : Hp) (E : XK) (f c' : Addr), Room k (A.deeper (lamEnv X scope s.heap.objs.size f c')) → PE (lamCx X A outer s H E scope f c') body (t E))
    (hdb : (x == ("__debug__" : Str)) = false := by decide) (hd : (a == ("__debug__" : Str)) = false := by decide) (hcd : (a == ("__classdict__" : Str)) = false := by decide) :
    PE X (.Call (.Name x p) [.Lambda params body scope lpos] [] pos) (tLam T TT t) := by
  refine ⟨fun pins s σ H Q I h => ?_⟩
  obtain ⟨hT, h⟩ := h
  refine wpAny_Call_Name_kw (ld_glob I hg hm ?_ hdb)
  refine PySem.W.callWith_K (h₀ := X.base) I.ok.mod.kin hk ?_ (by rfl) (by rfl)
  show wpAny _ _ (spliced ((false, eval (.Lambda params body scope lpos) X.env) :: backTo pos (starEach [] X.env))) _ _ s
  refine Calls.spliced_cons (lam_make1 I TB hcode hmT hu hT hdef hkw (L.has I.ok) fun f c' Ta td doc' pm' ctv H1 s' I1 eN T1 hf hfn hfr hTt hTn hTr hco => ?_)
  refine Calls.spliced_nil ⟨I1.kIn, ?_⟩
  have rc : codeAny (model X.prog X.w) X.A (.call (.ref g) ⟨[.ref f], []⟩) (CR C8.CX0 X.stack X.prog X.w H1 s' Q C8.E0) s' := by
    refine run_ofS (N := Ng) (ps := [a]) (us := [.ref f]) (vs := [.ref f]) lk hcg Sg hr I1.env0 (hb s' [.ref f] I1.kIn rfl) (.cons rfl .nil) rfl fun hr' => ?_
    obtain ⟨t', ht', hq'⟩ := hG f c' s' H1 Q (fun E H' Q' => t E σ H' Q') (fun W pn xe E p1 p2 tk hW => pe_act1 (i := 0) I1 L hf hfn hfr hTt hTn hTr hbind tk hW hr' (fun A outer s H hr2 => hbody A outer s H E f c' hr2) hNg hva hd hcd) hco (h H1 eN T1)
    exact ⟨t', ht'.nox, hq'⟩
  refine wpAny_call (codeAny_mono rc fun r s2 hq => ?_)
  cases r with
  | error e => exact (show False from hq).elim
  | ok fl =>
    cases fl with
    | ret u => exact I1.after hq
    | next => exact False.elim hq
    | brk => exact False.elim hq
    | cont => exact False.elim hq
end
end LamD
set_option Elab.async false
set_option linter.all false
set_option maxRecDepth 100000
set_option maxHeartbeats 4000000
/-! own: set(list of texts), sorted(set of texts), sorted(dict with texts as keys) -/
namespace TxS
open PySem PySem.Spec PyProof.Rows L2 PySem.Froz

/-- at a: a set of the texts l -/
def TxR (P : Program) (w : World) (h : Heap) (a : Addr) (l : List Str) : Prop :=
  ∃ D : SD, h.get? a = some (sObj "set" D) ∧ TxOk P w D l ∧ l.Nodup ∧ Ris D.2.2.place.toList ∧ (w.params.followText "set-order" = true ∨ D.2.2.led = true)
theorem TxR.keep {P : Program} {w : World} {h h' : Heap} {a : Addr} {l : List Str} (R : TxR P w h a l) (k : ∀ o, h.get? a = some o → h'.get? a = some o) : TxR P w h' a l := by
  obtain ⟨D, h1, r⟩ := R
  exact ⟨D, k _ h1, r⟩
section
variable {P : Program} {w : World} {A : Around} {E : Value → Shared → Prop} {s : Shared}
theorem tail_ris {ep : Nat} {es1 : Array (Int × Value)} {t2 : SetTable} {wd : Bool} (r : Ris t2.place.toList) : Ris (tailTx ep es1 t2 wd).2.2.place.toList := by
  unfold tailTx
  split
  · exact relayAll_ris _ _ _
  · exact r
theorem tail_led {ep : Nat} {es1 : Array (Int × Value)} {t2 : SetTable} {wd : Bool} : (tailTx ep es1 t2 wd).2.2.led = t2.led := by
  unfold tailTx
  split
  · exact relayAll_led _ _ _
  · rfl
theorem addTx_ris {D : SD} {h : Int} {v : Value} (r : Ris D.2.2.place.toList) : Ris (addTx h v D).2.2.place.toList := by
  obtain ⟨es, ep, t⟩ := D
  have r1 := layNew_ris t es h v r
  unfold addTx
  refine tail_ris ?_
  split
  · exact r1
  · exact r1
theorem addTx_led {D : SD} {h : Int} {v : Value} : (addTx h v D).2.2.led = D.2.2.led := by
  obtain ⟨es, ep, t⟩ := D
  have r1 := layNew_led t es h v
  unfold addTx
  refine tail_led.trans ?_
  split
  · exact r1
  · exact r1
/-- a text that is there already -/
theorem old_x {a : Addr} {T : String} {D : SD} {l : List Str} {k : Str} {u : Tok} {Q : Bool → Shared → Prop} (ho : s.heap.get? a = some (sObj T D)) (F : TxOk P w D l) (hk : k ∈ l) (hb : l.length < scanBound)
    (h : Q false s) : wpAny (model P w) A (setAddHashed a (.str k u) (hashStr w k)) Q E s := by
  obtain ⟨es, ep, t⟩ := D
  have hd : (sObj T (es, ep, t)).data = .set es ep t := rfl
  have hf : t.fits es.size = true := F.fit
  have hel : ElemsOf (strKind P w) es.toList := F.el
  have hsz : es.size = l.length := F.sz
  have hb0 : es.size < scanBound := by omega
  have hkey : (strKind P w).is k (.str k u) = true := strKind_is P w k u
  obtain ⟨j, hj⟩ : ∃ j, List.findIdx? (fun e => (strKind P w).is k e.2) es.toList = some j := by
    cases hr : List.findIdx? (fun e => (strKind P w).is k e.2) es.toList with
    | some j => exact ⟨j, rfl⟩
    | none =>
      obtain ⟨e, he, hq⟩ := (F.mem k).mp hk
      rw [List.findIdx?_eq_none_iff] at hr
      have q := hr e he
      rw [hq] at q
      cases q
  unfold setAddHashed setAddHashedIn
  refine wpAny_holding (wpAny_bind (wpAny_setState_of ho hd hf ?_))
  dsimp only
  rw [byScan_of rfl hb0 hel]
  simp only [↓reduceIte]
  unfold setAddByScan
  refine wpAny_bind ?_
  refine wpAny_bind (wpAny_rule ?_)
  refine wpAny_bind (wpAny_setScan_of (knd := strKind P w) (k := k) hkey ho hd hf hel ?_)
  rw [hj]
  dsimp only
  exact wpAny_pure (wpAny_pure h)
/-- what the set has got from the first i texts -/
def Got (xs : List Str) (i : Nat) (l : List Str) : Prop := (∀ x, x ∈ l ↔ x ∈ xs.take i) ∧ l.length ≤ i
theorem set_update_txt {I : Addr} {fp wr : List Addr} {G : Array GenState → Array GenState → Prop} {n : Nat} {Pv : Nat → Value → Prop} {St : Nat → Shared → Prop} {R : Result → Shared → Prop}
    (W : WalksS P w A.in1 I fp wr G n Pv St) (S : Addr) (hSf : S ∉ fp) (xs : List Str) (hn : n = xs.length) (hfew : xs.length + 1 < scanBound) (hval : ∀ i v, Pv i v → ∃ x t, xs[i]? = some x ∧ v = .str x t) :
    ∀ (k i : Nat) (s : Shared), n - i = k → i ≤ n → St i s → (∃ l, TxR P w s.heap S l ∧ Got xs i l) →
      (∀ s' l, Moved (S :: wr) G s s' → TxR P w s'.heap S l → Got xs n l → R (.ok (.ret .none)) s') →
      codeAny (model P w) A (.builtin "set.update.loop" ⟨[.ref S, .ref I], []⟩) R s := by
  have hSw : S ∉ wr := fun h => hSf (W.sub _ h)
  have hsub : ∀ b ∈ wr, b ∈ S :: wr := fun b hb => List.mem_cons_of_mem _ hb
  intro k
  induction k with
  | zero =>
    intro i s hk' hi hst ⟨l, hS, g⟩ hR
    have hin : i = n := by omega
    subst hin
    refine codeAny_builtin PyProof.Rows.F.entry_set_update_loop ?_
    rw [Around.under_plainId PyProof.Rows.F.plain_set_update_loop _]
    show wpAny _ A.in1 (pyNext (.ref I) >>= _) _ _ s
    refine wpAny_bind (W.done s _ _ hst fun s' hm => ?_)
    show wpAny _ A.in1 (ret Value.none) _ _ s'
    exact wpAny_pure (hR s' l (hm.mono hsub) (hS.keep fun o e => hm.heap S o hSw e) g)
  | succ k ih =>
    intro i s hk' hi hst ⟨l, hS, g⟩ hR
    have hlt : i < n := by omega
    refine codeAny_builtin PyProof.Rows.F.entry_set_update_loop ?_
    rw [Around.under_plainId PyProof.Rows.F.plain_set_update_loop _]
    show wpAny _ A.in1 (pyNext (.ref I) >>= _) _ _ s
    refine wpAny_bind (W.item i s _ _ hlt hst fun v s' hP hst' hm => ?_)
    obtain ⟨x, t, hx, rfl⟩ := hval i v hP
    have hS' : TxR P w s'.heap S l := hS.keep fun o e => hm.heap S o hSw e
    have tk : xs.take (i + 1) = xs.take i ++ [x] := by rw [List.take_succ, hx] <;> rfl
    show wpAny _ A.in1 (holding [Value.str x t] (setAdd S (.str x t)) >>= _) _ _ s'
    refine wpAny_bind (wpAny_holding ?_)
    unfold setAdd
    refine wpAny_holding ?_
    refine wpAny_bind ((PySem.strKind P w).pyHash (k := x) (strKind_is _ _ _ _) ?_)
    obtain ⟨D, hD, F1, nd, ri, le⟩ := hS'
    rcases Classical.em (x ∈ l) with c | c
    · refine old_x (s := { s' with toks := s'.toks + 1 }) hD F1 c (by have := g.2; omega) ?_
      refine wpAny_pure ⟨plainId_quiet PyProof.Rows.F.plain_set_update_loop _, ih (i + 1) { s' with toks := s'.toks + 1 } (by omega) hlt (W.frame _ s' _ _ hst' (Nat.le_succ _) fun b hb o e => e) ⟨l, ⟨D, hD, F1, nd, ri, le⟩, fun y => ?_, Nat.le_succ_of_le g.2⟩ fun s'' l2 hm'' hS'' g'' => ?_⟩
      · rw [tk, List.mem_append, List.mem_singleton, g.1 y]
        refine ⟨.inl, fun z => z.elim id fun z => ?_⟩
        rw [z, ← g.1 x]
        exact c
      · exact hR s'' l2 (Moved.trans W.gtrans ((hm.mono hsub).then_heap (Nat.le_succ _) fun b o hb e => e) hm'') hS'' g''
    · refine add_x (s := { s' with toks := s'.toks + 1 }) hD F1 c (by have := g.2; omega) ?_
      have oth : ∀ b, b ≠ S → ∀ o, s'.heap.get? b = some o → (s'.heap.update S (fun _ => sObj "set" (addTx (hashStr w x) (.str x t) D))).get? b = some o := fun b hb o e => (Heap.get?_update_other _ _ (Ne.symm hb)).trans e
      refine wpAny_pure ⟨plainId_quiet PyProof.Rows.F.plain_set_update_loop _, ih (i + 1) { s' with toks := s'.toks + 1, heap := s'.heap.update S (fun _ => sObj "set" (addTx (hashStr w x) (.str x t) D)) } (by omega) hlt (W.frame _ s' _ _ hst' (Nat.le_succ _) fun b hb o e => ?_)
        ⟨x :: l, ⟨addTx (hashStr w x) (.str x t) D, get_upd _ hD rfl, add_ok t F1, List.nodup_cons.mpr ⟨c, nd⟩, addTx_ris ri, by rw [addTx_led]; exact le⟩, fun y => ?_, Nat.succ_le_succ g.2⟩ fun s'' l2 hm'' hS'' g'' => ?_⟩
      · exact oth b (fun z => hSf (z ▸ hb)) o e
      · rw [tk, List.mem_append, List.mem_singleton, List.mem_cons, g.1 y]
        exact ⟨fun z => z.elim .inr .inl, fun z => z.elim .inr .inl⟩
      · exact hR s'' l2 (Moved.trans W.gtrans ((hm.mono hsub).then_heap (Nat.le_succ _) fun b o hb e => oth b (fun z => hb (by rw [z]; exact List.mem_cons_self)) o e) hm'') hS'' g''
end
end TxS
set_option Elab.async false
set_option linter.all false
set_option maxRecDepth 100000
set_option maxHeartbeats 8000000
namespace TxS
open PySem PySem.Spec PyProof.Rows L2 PySem.Froz
theorem perm_of_sub : ∀ {l m : List Str}, l.Nodup → (∀ x ∈ l, x ∈ m) → m.length ≤ l.length → m.Perm l
  | [], m, _, _, h => by
    have e : m = [] := List.length_eq_zero_iff.mp (Nat.le_zero.mp h)
    rw [e]
  | x :: l, m, nd, sub, h => by
    obtain ⟨n1, n2⟩ := List.nodup_cons.mp nd
    have hx := sub x List.mem_cons_self
    have p := List.perm_cons_erase hx
    have hl := p.length_eq
    rw [List.length_cons] at hl h
    refine p.trans (List.Perm.cons x (perm_of_sub n2 (fun y hy => ?_) (by omega)))
    have hne : y ≠ x := fun z => n1 (z ▸ hy)
    exact (List.mem_erase_of_ne hne).mpr (sub y (List.mem_cons_of_mem _ hy))
section
variable {P : Program} {w : World} {A : Around} {E : Value → Shared → Prop} {s : Shared}
theorem fresh_txt {h : Heap} {a : Addr} (ho : h.get? a = some { cls := .type "set", dict := none, data := .set #[] 0 (.fresh 0 0 (!w.params.followText "set-order")) }) : TxR P w h a [] :=
  ⟨(#[], 0, .fresh 0 0 (!w.params.followText "set-order")), ho, TxOk.nil rfl, List.nodup_nil, List.Pairwise.nil, by
    show _ ∨ (!w.params.followText "set-order") = true
    cases w.params.followText "set-order"
    · exact .inr rfl
    · exact .inl rfl⟩
/-- set(xs) of texts -/
theorem call_set_txt {l : Addr} {items : Array Value} (xs : List Str) {Q : Value → Shared → Prop} (hh : A.handled = none) (hl : s.heap.IsList l items) (hit : StrsAre items.toList xs) (hfew : xs.length + 1 < scanBound)
    (h : ∀ (h' : Heap) (tk : Nat) L, TxR P w h' s.heap.objs.size L → Got xs xs.length L → (∀ b o, s.heap.get? b = some o → h'.get? b = some o) → Q (.ref s.heap.objs.size) { s with heap := h', toks := tk }) :
    wpAny (model P w) A (call (.type "set") [.ref l]) Q E s := by
  have hisz : items.size = xs.length := by
    have q := hit.length
    rw [Array.length_toList] at q
    exact q
  obtain ⟨c, tl, hmro⟩ := PySem.F.called_set.mro
  have hmade := PySem.F.called_set.made
  have hsub := PySem.F.called_set.sub
  refine wpAny_call (codeAny_of_tree ?_)
  show wpAny _ _ (callAny (.type "set") _) _ _ _
  refine wpAny_pure ⟨Code.quiet_builtin _ (by decide +kernel), codeAny_builtin PySem.F.entry_type_call ?_⟩
  rw [Around.under_plain (weight_type_call_type "set" [.ref l] []) rfl]
  have h1 := PySem.F.called_set.notType
  have h2 := PySem.F.called_set.canCreate
  have hct := PySem.F.typeCall_set_1 (.ref l)
  repeat (any_goals (first | assumption | wp_step))
  refine codeAny_mono (code_set_led1 (.ref l) (E := E) (Q₁ := fun obj s₁ => obj = .ref s.heap.objs.size ∧ s₁ = { s with heap := s.heap.push { cls := .type "set", dict := none, data := .set #[] 0 (.fresh 0 0 (!w.params.followText "set-order")) } }) ⟨rfl, rfl⟩) fun r s₁ hr => ?_
  cases r with
  | error e => exact hr
  | ok fl =>
    cases fl with
    | ret obj =>
      obtain ⟨rfl, rfl⟩ := hr
      have hS : (s.heap.push { cls := .type "set", dict := none, data := .set #[] 0 (.fresh 0 0 (!w.params.followText "set-order")) }).get? s.heap.objs.size = some { cls := .type "set", dict := none, data := .set #[] 0 (.fresh 0 0 (!w.params.followText "set-order")) } := Heap.get?_push_size _ rfl
      have hT : Shared.TypeIs { s with heap := s.heap.push { cls := .type "set", dict := none, data := .set #[] 0 (.fresh 0 0 (!w.params.followText "set-order")) } } (.ref s.heap.objs.size) "set" := ⟨_, hS, rfl⟩
      have hli := PySem.F.called_set.init.lookup
      have hbi := PySem.F.called_set.init.bind (.ref s.heap.objs.size)
      repeat (any_goals (first | assumption | wp_step))
      refine codeAny_mono (codeAny_call_builtin (R := wants (fun r s₂ => r = .none ∧ ∃ h' tk L, s₂ = { s with heap := h', toks := tk } ∧ TxR P w h' s.heap.objs.size L ∧ Got xs xs.length L ∧
          (∀ b o, s.heap.get? b = some o → h'.get? b = some o)) E) PySem.F.called_set.init.plain PySem.F.entry_set_init (check_set_init_1 hT ?_)) fun r₂ s₂ hr₂ => ?_
      · obtain ⟨ol, hol, hcl, nl, hdl⟩ := hl
        obtain ⟨ocls, odict, odata, oslots⟩ := ol
        simp only at hcl hdl
        subst hcl; subst hdl
        have hol' : (s.heap.push { cls := .type "set", dict := none, data := .set #[] 0 (.fresh 0 0 (!w.params.followText "set-order")) }).get? l = some { cls := .type "list", dict := odict, data := .seq items nl, slots := oslots } := Heap.get?_push_of_some _ hol
        have hsls := PySem.F.sub_list_set
        have hslf := PySem.F.sub_list_frozenset
        have hne : (Value.type "list" == Value.type "dict") = false := by decide
        have hl1 : (s.heap.push { cls := .type "set", dict := none, data := .set #[] 0 (.fresh 0 0 (!w.params.followText "set-order")) }).IsList l items := ⟨_, hol', rfl, nl, rfl⟩
        unfold Builtin.«set.__init__» noKeywords Builtin.Frozenset.updateFrom
        generalize hPI : pyIter = PI
        wp_walk
        subst hPI
        refine wpAny_pyIter_list hl1 ?_
        refine wpAny_bind (wpAny_runValue ?_)
        have hlS : l < s.heap.objs.size := Heap.lt_size hol
        have hh3 : A.in1.in1.in1.handled = none := by simp [hh]
        have hneI : l ≠ (s.heap.push { cls := .type "set", dict := none, data := .set #[] 0 (.fresh 0 0 (!w.params.followText "set-order")) }).objs.size := by
          rw [Heap.size_push]; exact Nat.ne_of_lt (Nat.lt_succ_of_lt hlS)
        have hSf : s.heap.objs.size ∉ [(s.heap.push { cls := .type "set", dict := none, data := .set #[] 0 (.fresh 0 0 (!w.params.followText "set-order")) }).objs.size, l] := by
          rw [Heap.size_push]; simp only [List.mem_cons, List.mem_singleton, List.not_mem_nil, or_false, not_or]
          exact ⟨Nat.ne_of_lt (Nat.lt_succ_self _), Nat.ne_of_gt hlS⟩
        have hval : ∀ (i : Nat) (v : Value), items[i]? = some v → ∃ x t, xs[i]? = some x ∧ v = .str x t := fun i v hv => by
          have q : items.toList[i]? = some v := by rw [Array.getElem?_toList]; exact hv
          have key : ∀ {us : List Value} {ys : List Str} {i : Nat}, StrsAre us ys → us[i]? = some v → ∃ x t, ys[i]? = some x ∧ v = .str x t := by
            intro us ys i r
            induction r generalizing i with
            | nil => intro z; simp at z
            | cons x t r ih =>
              intro z
              cases i with
              | zero =>
                simp at z
                exact ⟨x, t, rfl, z.symm⟩
              | succ i =>
                simp only [List.getElem?_cons_succ] at z ⊢
                exact ih z
          exact key hit q
        refine set_update_txt ((Walks.list hh3 _ l hneI items).toS) s.heap.objs.size
          hSf xs hisz hfew hval (items.size - 0) 0 _ (by omega) (Nat.zero_le _)
          ⟨⟨_, Heap.get?_push_size _ rfl, rfl, rfl⟩, (hl1.push _)⟩ ?hS0 ?hR
        case hS0 =>
          have hget : ((s.heap.push { cls := .type "set", dict := none, data := .set #[] 0 (.fresh 0 0 (!w.params.followText "set-order")) }).push { cls := .type "list_iterator", data := .fields #[.ref l, .int 0 0] }).get? s.heap.objs.size
              = some { cls := .type "set", dict := none, data := .set #[] 0 (.fresh 0 0 (!w.params.followText "set-order")) } := Heap.get?_push_of_some _ hS
          exact ⟨[], fresh_txt hget, fun x => by simp, Nat.le_refl _⟩
        case hR =>
          intro s' L hm hS' g'
          obtain ⟨h', g2, d', tk', os'⟩ := s'
          have eg : g2 = s.gens := hm.gens
          have ed : d' = s.drawn := hm.drawn
          have eo : os' = s.os := hm.os
          subst eg; subst ed; subst eo
          show wpAny _ _ _ _ _ _
          refine wpAny_pure ?_
          show wpAny _ _ (ret Value.none) _ _ _
          rw [hisz] at g'
          refine wpAny_pure ⟨rfl, h', tk', L, rfl, hS', g', fun b o e => ?_⟩
          have hb := Heap.lt_size e
          have hb1 : b ≠ s.heap.objs.size := Nat.ne_of_lt hb
          have hb2 : b ≠ (s.heap.push { cls := .type "set", dict := none, data := .set #[] 0 (.fresh 0 0 (!w.params.followText "set-order")) }).objs.size := by
            rw [Heap.size_push]; exact Nat.ne_of_lt (Nat.lt_succ_of_lt hb)
          exact hm.heap b o (by simp only [List.mem_cons, List.mem_singleton, List.not_mem_nil, or_false, not_or]; exact ⟨hb1, hb2⟩) (Heap.get?_push_of_some _ (Heap.get?_push_of_some _ e))
      · cases r₂ with
        | error e => exact hr₂
        | ok fl₂ =>
          cases fl₂ with
          | ret r =>
            obtain ⟨rfl, h', tk, L, rfl, hS', g', hk'⟩ := hr₂
            repeat (any_goals (first | assumption | wp_step))
            exact h _ _ _ hS' g' hk'
          | _ => exact hr₂.elim
    | _ => exact hr.elim
/-- sorted(..) behind the collecting of its items -/
theorem sort_txt {vs : List Value} {xs : List Str} {P2 : Fin → Shared → Prop} (hS : StrsAre vs xs) (h64 : vs.length < 64)
    (hQ : ∀ (out : Array Value) (c : Nat) (ys : List Str) (h' : Heap), (∀ b o, s.heap.get? b = some o → h'.get? b = some o) → h'.get? s.heap.objs.size = some (seqObj "list" out c) → StrsAre out.toList ys → ys.Perm xs → sortedS ys = true → P2 (.done (.ret (.ref s.heap.objs.size))) { s with heap := h' }) :
    wpAny (model P w) A (newList vs >>= fun l => holding [l] (call (.builtin "list.sort") [l]) >>= fun _ => ret l) P2 E s := by
  refine wpAny_bind (wpAny_newList ?_ (by rw [sizeLine_eq]; omega))
  have hoL : (s.heap.push (seqObj "list" vs.toArray 0)).get? s.heap.objs.size = some (seqObj "list" vs.toArray 0) := Heap.get?_push_size _ rfl
  refine wpAny_bind (wpAny_holding (wpAny_call_entry slot_list_sort ⟨_, hoL, rfl⟩ entry_list_sort (list_sort_treeK strKind_oneLt hoL hS.keysOf (fun v₁ v₂ rest e => keyKind_strs (by rw [← e]; exact hS)) h64 fun st' a1 a2 => ⟨_, rfl, ?_⟩) (args_list_sort _)))
  obtain ⟨ys, h1, h2, h3⟩ := sorted_out_str hS a1 a2
  obtain ⟨c, hc⟩ := sortedHeap_at (vs := vs) (out := (arrOf st').map (·.2)) hoL
  refine wpAny_pure (hQ _ c ys _ (fun b u e => ?_) hc h1 h2 h3)
  have hlt := Heap.lt_size e
  rw [sortedHeap_old (Nat.ne_of_lt hlt) (by rw [size_push']; exact Nat.lt_succ_of_lt hlt)]
  exact Heap.get?_push_of_some _ e
end
end TxS
set_option Elab.async false
set_option linter.all false
set_option maxRecDepth 100000
set_option maxHeartbeats 8000000
namespace TxS
open PySem PySem.Spec PyProof.Rows L2 PySem.Froz
/-- at a: a set of the texts l -/
def SetT (P : Program) (w : World) (a : Addr) (l : List Str) : HO := .ext fun h => TxR P w h a l
theorem setT_ok {P : Program} {w : World} {H : Hp} {h : Heap} {a : Addr} {l : List Str} (R : TxR P w h a l) : ObjOk P w H h a (SetT P w a l) := by
  obtain ⟨D, h1, r⟩ := id R
  exact ⟨R, ⟨_, h1⟩, fun h1 h2 z k => z.keep k⟩
section
variable {X : Cx}
/-- set(xs), a list of texts -/
def rSetTxt (K : PySem.W.Frag) (P : Program) (w : World) : List V → Hp → VK → Prop := fun vs H Q => ∃ (a : Addr) (xs : List Str), vs = [V.ref a] ∧ SqL K H a (xs.map V.str) ∧ xs.length < 1000 ∧
  ∀ (p : Addr) (l : List Str), (∀ x, x ∈ l ↔ x ∈ xs) → l.length ≤ xs.length → H p = none → Q (.ref p) (upd H p (SetT P w p l))
theorem cr_setTxt (hc : X.calm = true) : CallR X (.type "set") (rSetTxt X.K X.prog X.w) := by
  intro pins s σ H vs us Q I r h
  obtain ⟨a, xs, rfl, hs, hl, q⟩ := h
  obtain ⟨its, rv, hp, _⟩ := I.list hs
  rw [Vals.ref1 r]
  refine call_set_txt (items := its.toArray) xs (I.ok.hd hc) hp.isList (by simpa using rv.strs) (by unfold scanBound; omega) fun h' tk L R g k => ?_
  have hn : H s.heap.objs.size = none := I.hok.fresh (Nat.le_refl _)
  exact ⟨.ref s.heap.objs.size, upd H s.heap.objs.size (SetT X.prog X.w s.heap.objs.size L), I.laid (t' := tk) k (Nat.le_refl _) (setT_ok R), rfl, q _ L (fun x => by rw [g.1 x, List.take_length]) g.2 hn⟩
/-- sorted(a set of texts) -/
def rSortTxt (P : Program) (w : World) : List V → Hp → VK → Prop := fun vs H Q => ∃ (a : Addr) (l : List Str), vs = [V.ref a] ∧ H a = some (SetT P w a l) ∧ l.length < 64 ∧
  ∀ (p : Addr) (ys : List Str), ys.Nodup → (∀ x, x ∈ ys ↔ x ∈ l) → sortedS ys = true → H p = none → Q (.ref p) (upd H p (.lst (ys.map V.str)))
theorem strOf_of {P : Program} {w : World} : ∀ {vs : List Value}, (∀ v ∈ vs, ∃ k, (strKind P w).is k v = true) → StrsAre vs (vs.map strOf)
  | [], _ => .nil
  | v :: vs, h => by
    obtain ⟨k, hk⟩ := h v List.mem_cons_self
    obtain ⟨t, rfl⟩ := Value.isStrOf_shape hk
    exact .cons k t (strOf_of fun u hu => h u (List.mem_cons_of_mem _ hu))
theorem cr_sortTxt (hc : X.calm = true) : CallR X (.builtin "sorted") (rSortTxt X.prog X.w) := by
  intro pins s σ H vs us Q I r h
  obtain ⟨a, l, rfl, ha, h64, q⟩ := h
  have R : TxR X.prog X.w s.heap a l := (I.hok a _ ha).1
  rw [Vals.ref1 r]
  obtain ⟨⟨es, ep, t⟩, hD, F1, nd, ri, le⟩ := R
  have hsz : es.size = l.length := F1.sz
  have hel : ElemsOf (strKind X.prog X.w) es.toList := F1.el
  have hh := I.ok.hd hc
  refine Calls.call_function_entry kind_sorted plain_sorted entry_sorted (args_sorted1 _) ?_
  unfold Builtin.«sorted»
  refine wpAny_bind (m := checkCount "sorted" 1 1 _) (wpAny_pure ?_)
  refine wpAny_bind (collect_set (A := X.A.in1) hh ⟨_, hD, rfl, rfl⟩ F1.fit (by show es.size < scanBound; unfold scanBound; omega) ri le fun s1 vs1 k1 hz g1 o1 pm => ?_)
  have hall : ∀ v ∈ vs1, ∃ k, (strKind X.prog X.w).is k v = true := fun v hv => by
    obtain ⟨e, he, z⟩ := List.mem_map.mp (pm.mem_iff.mp hv)
    obtain ⟨⟨k, hk, _⟩, _⟩ := hel e he
    exact ⟨k, by rw [← z]; exact hk⟩
  have hS := strOf_of hall
  have hvl : vs1.length = l.length := by rw [pm.length_eq, List.length_map, Array.length_toList]; exact hsz
  have pl : (vs1.map strOf).Perm l := by
    refine perm_of_sub nd (fun x hx => ?_) (by rw [List.length_map, hvl]; exact Nat.le_refl _)
    obtain ⟨e, he, hk⟩ := (F1.mem x).mp hx
    obtain ⟨t1, e2⟩ := Value.isStrOf_shape hk
    have hm : e.2 ∈ vs1 := pm.mem_iff.mpr (List.mem_map_of_mem he)
    have z := List.mem_map_of_mem (f := strOf) hm
    rw [e2] at z
    exact z
  refine sort_txt hS (by rw [hvl]; exact h64) fun out c ys h' k2 hp2 so pe st => ⟨_, rfl, ?_⟩
  have ple := pe.trans pl
  have hn : H s1.heap.objs.size = none := I.hok.fresh hz
  have hlen : (ys.map V.str).length ≤ sizeLine := by rw [List.length_map, ple.length_eq, sizeLine_eq]; omega
  have J : Inv X pins σ (upd H s1.heap.objs.size (.lst (ys.map V.str))) { s with heap := h', gens := s1.gens, drawn := s1.drawn, toks := s1.toks } :=
    I.call (ch := []) (Un.laid (fun b o e => k2 b o (k1 b o e)) hz hn) (I.hok.laid (fun b o e => k2 b o (k1 b o e)) hz ⟨hlen, out.toList, c, vals_of_strs so, hp2⟩) (by rw [g1]; exact I.bare) (fun _ z => nomatch z)
  have e : ({ s1 with heap := h' } : Shared) = { s with heap := h', gens := s1.gens, drawn := s1.drawn, toks := s1.toks } := by
    cases s1
    cases s
    cases o1
    rfl
  rw [e]
  exact ⟨.ref s1.heap.objs.size, _, J, rfl, q _ ys (ple.nodup_iff.mpr nd) (fun x => ple.mem_iff) st hn⟩
/-- sorted(a dict with texts as keys) -/
def rSortDct : List V → Hp → VK → Prop := fun vs H Q => ∃ (a : Addr) (kvs : List (L2.Key × V)) (ks : List Str), vs = [V.ref a] ∧ H a = some (.dK kvs) ∧ kvs.map (·.1) = ks.map Sum.inr ∧ ks.length < 64 ∧
  ∀ (p : Addr) (ys : List Str), ys.Perm ks → sortedS ys = true → H p = none → Q (.ref p) (upd H p (.lst (ys.map V.str)))
theorem cr_sortDct (hc : X.calm = true) : CallR X (.builtin "sorted") rSortDct := by
  intro pins s σ H vs us Q I r h
  obtain ⟨a, kvs, ks, rfl, ha, hk, h64, q⟩ := h
  obtain ⟨hz, lo, kw, rel, dd⟩ := dk_of I.hok ha
  rw [Vals.ref1 r]
  obtain ⟨ep, hat⟩ := dd.dictAt
  have hh := I.ok.hd hc
  have hlen : kw.length = ks.length := by
    have e1 := rel.length
    have e2 := congrArg List.length hk
    rw [List.length_map, List.length_map] at e2
    omega
  refine Calls.call_function_entry kind_sorted plain_sorted entry_sorted (args_sorted1 _) ?_
  unfold Builtin.«sorted»
  refine wpAny_bind (m := checkCount "sorted" 1 1 _) (wpAny_pure ?_)
  refine wpAny_bind (PySem.W.kdu_collect (A := X.A.in1) (PySem.W.kdl_dict (knd := mixKind X.prog X.w) (kvs := kw) (ep := ep) lo) hh hat (by rw [hlen, sizeLine_eq]; omega) fun h1 tk acc k1 hacc => ?_)
  have hkeys : ∀ j : Nat, (kw[j]?).map (·.1) = (ks[j]?).map Sum.inr := by
    have e1 : kvs.map (·.1) = kw.map (·.1) := by
      clear hk hat dd hlen hz ha q hacc
      induction rel with
      | nil => rfl
      | cons h t ih => rw [List.map_cons, List.map_cons, h.1, ih]
    intro j
    have e2 : kw.map (·.1) = ks.map Sum.inr := e1.symm.trans hk
    have e3 := congrArg (fun l => l[j]?) e2
    rw [List.getElem?_map, List.getElem?_map] at e3
    exact e3
  have hS : StrsAre acc.toList ks := by
    obtain ⟨hsz, hit⟩ := hacc
    have key : ∀ (us : List Value) (l : List Str), us.length = l.length → (∀ (j : Nat) (v : Value), us[j]? = some v → ∃ x : Str, l[j]? = some x ∧ ∃ t, v = Value.str x t) → StrsAre us l := by
      intro us
      induction us with
      | nil => intro l hl _; cases l with
        | nil => exact .nil
        | cons _ _ => cases hl
      | cons u us ih =>
        intro l hl hh
        cases l with
        | nil => cases hl
        | cons x l =>
          obtain ⟨x', e, t, ev⟩ := hh 0 u rfl
          simp at e
          subst e
          subst ev
          exact .cons x t (ih l (Nat.succ.inj hl) fun j v hv => by
            obtain ⟨y, e, z⟩ := hh (j + 1) v (by simpa using hv)
            exact ⟨y, by simpa using e, z⟩)
    refine key _ _ (by rw [Array.length_toList, hsz, hlen]) fun j v hv => ?_
    obtain ⟨k0, x0, hx0, hk0⟩ := hit j v (by rw [← Array.getElem?_toList]; exact hv)
    have e3 := hkeys j
    rw [hx0] at e3
    cases hj : ks[j]? with
    | none => rw [hj] at e3; cases e3
    | some y =>
      rw [hj] at e3
      have e4 : k0 = Sum.inr y := Option.some.inj e3
      rw [e4] at hk0
      obtain ⟨t, e5⟩ := Value.isStrOf_shape (show Value.isStrOf y v = true from hk0)
      exact ⟨y, rfl, t, e5⟩
  refine sort_txt hS (by rw [hS.length]; exact h64) fun out c ys h' k2 hp2 so pe st => ⟨_, rfl, ?_⟩
  have hn0 : s.heap.get? h1.objs.size = none := by
    cases z : s.heap.get? h1.objs.size with
    | none => rfl
    | some o => exact absurd (Heap.lt_size (k1 _ _ z)) (Nat.lt_irrefl _)
  have hn : H h1.objs.size = none := I.hok.gone hn0
  have hlen2 : (ys.map V.str).length ≤ sizeLine := by rw [List.length_map, pe.length_eq, sizeLine_eq]; omega
  exact ⟨.ref h1.objs.size, _, I.laidN (t' := tk) (a := h1.objs.size) (o := .lst (ys.map V.str)) (fun b o e => k2 b o (k1 b o e)) hn0 hn ⟨hlen2, out.toList, c, vals_of_strs so, hp2⟩, rfl, q _ ys pe st hn⟩
end
end TxS
set_option Elab.async false
set_option linter.all false
set_option maxRecDepth 100000
set_option maxHeartbeats 4000000
namespace K2
open PySem L2 Evl
/-! ### data: lists and tuples, {} -/
mutual
inductive Dx (K : PySem.W.Frag) (H : Hp) : V → PyData → Prop
  | non : Dx K H .non .none
  | bl (b : Bool) : Dx K H (.bl b) (.bool b)
  | int (i : Int) : Dx K H (.int i) (.int i)
  | str (x : Str) : Dx K H (.str x) (.str x)
  | lst {a : Addr} {xs : List V} {ds : List PyData} : SqL K H a xs → DxAll K H xs ds → Dx K H (.ref a) (.list ds)
  | tup {a : Addr} {xs : List V} {ds : List PyData} : SqT K H a xs → DxAll K H xs ds → Dx K H (.ref a) (.tuple ds)
  | dct {a : Addr} : H a = some (.dK []) → Dx K H (.ref a) (.dict [])
inductive DxAll (K : PySem.W.Frag) (H : Hp) : List V → List PyData → Prop
  | nil : DxAll K H [] []
  | cons {v : V} {vs : List V} {d : PyData} {ds : List PyData} : Dx K H v d → DxAll K H vs ds → DxAll K H (v :: vs) (d :: ds)
end
section
variable {K : PySem.W.Frag} {H H' : Hp}
mutual
theorem Dx.ex (e : Ex H H') : ∀ (d : PyData) (v : V), Dx K H v d → Dx K H' v d
  | .none, _, h => by cases h; exact .non
  | .bool b, _, h => by cases h; exact .bl b
  | .int i, _, h => by cases h; exact .int i
  | .str x, _, h => by cases h; exact .str x
  | .list ds, _, h => by
    cases h with
    | lst hs ha => exact .lst (ex_l e hs) (DxAll.ex e ds _ ha)
  | .tuple ds, _, h => by
    cases h with
    | tup hs ha => exact .tup (ex_t e hs) (DxAll.ex e ds _ ha)
  | .dict kvs, _, h => by
    cases h with
    | dct ha => exact .dct (e _ _ ha)
theorem DxAll.ex (e : Ex H H') : ∀ (ds : List PyData) (vs : List V), DxAll K H vs ds → DxAll K H' vs ds
  | [], _, h => by cases h; exact .nil
  | d :: ds, _, h => by
    cases h with
    | cons h1 h2 => exact .cons (Dx.ex e d _ h1) (DxAll.ex e ds _ h2)
end
theorem DxAll.length : ∀ {vs : List V} {ds : List PyData}, DxAll K H vs ds → vs.length = ds.length
  | _, _, .nil => rfl
  | _, _, .cons _ h => by rw [List.length_cons, List.length_cons, h.length]
theorem DxAll.get : ∀ {vs : List V} {ds : List PyData} {i : Nat} {d : PyData}, DxAll K H vs ds → ds[i]? = some d → ∃ v, vs[i]? = some v ∧ Dx K H v d
  | _, _, i, _, .nil, h => by simp at h
  | _, _, 0, d, .cons h1 _, h => by
    simp at h
    subst h
    exact ⟨_, rfl, h1⟩
  | _, _, i + 1, d, .cons _ h2, h => by
    simp at h
    obtain ⟨v, e, q⟩ := DxAll.get h2 h
    exact ⟨v, by simpa using e, q⟩
theorem DxAll.getV : ∀ {vs : List V} {ds : List PyData} {i : Nat} {v : V}, DxAll K H vs ds → vs[i]? = some v → ∃ d, ds[i]? = some d ∧ Dx K H v d
  | _, _, i, _, .nil, h => by simp at h
  | _, _, 0, v, .cons h1 _, h => by
    simp at h
    subst h
    exact ⟨_, rfl, h1⟩
  | _, _, i + 1, v, .cons _ h2, h => by
    simp at h
    obtain ⟨d, e, q⟩ := DxAll.getV h2 h
    exact ⟨d, by simpa using e, q⟩
theorem DxAll.append : ∀ {vs ws : List V} {ds es : List PyData}, DxAll K H vs ds → DxAll K H ws es → DxAll K H (vs ++ ws) (ds ++ es)
  | _, _, _, _, .nil, h => h
  | _, _, _, _, .cons h1 h2, h => .cons h1 (h2.append h)
theorem DxAll.take : ∀ {vs : List V} {ds : List PyData} (n : Nat), DxAll K H vs ds → DxAll K H (vs.take n) (ds.take n)
  | _, _, 0, _ => by simpa using DxAll.nil
  | _, _, _ + 1, .nil => by simpa using DxAll.nil
  | _, _, n + 1, .cons h1 h2 => by
    rw [List.take_succ_cons, List.take_succ_cons]
    exact .cons h1 (h2.take n)
theorem DxAll.drop : ∀ {vs : List V} {ds : List PyData} (n : Nat), DxAll K H vs ds → DxAll K H (vs.drop n) (ds.drop n)
  | _, _, 0, h => h
  | _, _, _ + 1, .nil => .nil
  | _, _, n + 1, .cons _ h2 => h2.drop n
end
/-! ### what a statement is -/
/-- the type's name -/
def tyN : PyData → String
  | .none => "NoneType"
  | .bool _ => "bool"
  | .int _ => "int"
  | .str _ => "str"
  | .list _ => "list"
  | .tuple _ => "tuple"
  | .dict _ => "dict"
theorem Dx.ty {K : PySem.W.Frag} {H : Hp} {v : V} {d : PyData} (h : Dx K H v d) : TyX K H v (.type (tyN d)) := by
  cases h with
  | non => exact .base .non
  | bl b => exact .base (.bl b)
  | int i => exact .base (.int i)
  | str x => exact .base (.str x)
  | lst hs _ =>
    rcases hs with (h | ⟨o, h⟩) | ⟨o, its, n, hk, hc, _⟩
    · exact .base (.lst h)
    · exact .base (.frz h)
    · exact .kList hk hc
  | tup hs _ =>
    rcases hs with (h | ⟨o, h⟩) | ⟨o, its, n, hk, hc, _⟩
    · exact .base (.tup h)
    · exact .fTuple h
    · exact .kTuple hk hc
  | dct h => exact .base (.dK h)
def isRow : PyData → Bool
  | .list _ => true
  | .tuple _ => true
  | _ => false
def isTxt : PyData → Bool
  | .str _ => true
  | _ => false
theorem kit_two {K : PySem.W.Frag} {n a b : String} {x y : Bool} (h1 : kitB n a = some x) (h2 : kitB n b = some y) : PySem.W.kitAny K (.type n) [.type a, .type b] = some (x || y) := by
  refine kitAny_cons (kit_ty h1) (fun hx => ?_) (fun hx => by rw [hx] <;> rfl)
  subst hx
  exact kitAny_cons (kit_ty h2) (fun hy => by subst hy; exact kitAny_nil) (fun hy => by rw [hy] <;> rfl)
theorem kit_row (K : PySem.W.Frag) (d : PyData) : PySem.W.kitAny K (.type (tyN d)) [.type "list", .type "tuple"] = some (isRow d) := by
  cases d with
  | none => exact kit_two (n := "NoneType") (x := false) (y := false) (by decide +kernel) (by decide +kernel)
  | bool _ => exact kit_two (n := "bool") (x := false) (y := false) (by decide +kernel) (by decide +kernel)
  | int _ => exact kit_two (n := "int") (x := false) (y := false) (by decide +kernel) (by decide +kernel)
  | str _ => exact kit_two (n := "str") (x := false) (y := false) (by decide +kernel) (by decide +kernel)
  | list _ => exact kit_two (n := "list") (x := true) (y := false) (by decide +kernel) (by decide +kernel)
  | tuple _ => exact kit_two (n := "tuple") (x := false) (y := true) (by decide +kernel) (by decide +kernel)
  | dict _ => exact kit_two (n := "dict") (x := false) (y := false) (by decide +kernel) (by decide +kernel)
theorem kit_txt (K : PySem.W.Frag) (d : PyData) : PySem.W.kitOne K (.type (tyN d)) (.type "str") = some (isTxt d) := by
  cases d with
  | none => exact kit_ty (a := "NoneType") (r := false) (by decide +kernel)
  | bool _ => exact kit_ty (a := "bool") (r := false) (by decide +kernel)
  | int _ => exact kit_ty (a := "int") (r := false) (by decide +kernel)
  | str _ => exact kit_ty (a := "str") (r := true) (by decide +kernel)
  | list _ => exact kit_ty (a := "list") (r := false) (by decide +kernel)
  | tuple _ => exact kit_ty (a := "tuple") (r := false) (by decide +kernel)
  | dict _ => exact kit_ty (a := "dict") (r := false) (by decide +kernel)
/-! ### the text by places -/
def top (i : Nat) : Stmt := PySem.Challenge.pw_atallprices_k02_statements_and_their_tex.main.body.getD i (.Pass ⟨0, 0, 0, 0⟩)
end K2
set_option Elab.async false
set_option linter.all false
set_option maxRecDepth 100000
set_option maxHeartbeats 4000000
namespace K2
open PySem L2 Evl
/-- a tuple of the written part -/
def KT (K : PySem.W.Frag) (a : Addr) (xs : List V) : Prop := ∃ (o : Obj) (its : Array Value) (n : Nat), K.lookup a = some o ∧ o.cls = .type "tuple" ∧ o.data = .seq its n ∧ its.size ≤ sizeLine ∧ Vals xs its.toList
theorem KT.sq {K : PySem.W.Frag} {H : Hp} {a : Addr} {xs : List V} (h : KT K a xs) : SqT K H a xs := .inr h
/-- no global of this name: the built-in one is meant -/
structure Bl (mg : Str → Option Value) : Prop where
  isi : mg "isinstance" = none
  list : mg "list" = none
  tuple : mg "tuple" = none
  str : mg "str" = none
  len : mg "len" = none
  all : mg "all" = none
  sorted : mg "sorted" = none
  set : mg "set" = none
  repr : mg "repr" = none
  abs : mg "abs" = none
  int : mg "int" = none
  range : mg "range" = none
abbrev ss (l : List Str) : List V := l.map V.str
def words : List Str := ["both", "gives", "pick", "or", "nothing", "any", "no", "split", "call", "take", "open", "use", "never", "give", "box", "pair", "fun", "offer", "left", "right", "unit", "rest", "first", "second"]
def joins : List Str := ["both", "gives", "pick", "or"]
def bare : List Str := ["nothing", "any", "no"]
def letters : Str := "abcdefghijklmnopqrstuvwxyz"
/-- the constants -/
structure Cn (K : PySem.W.Frag) (mg : Str → Option Value) : Prop where
  letters : ∃ t, mg "LETTERS" = some (.str letters t)
  signs : ∃ t, mg "MOST_SIGNS" = some (.int 8 t)
  parts : ∃ t, mg "MOST_PARTS" = some (.int 24 t)
  words : ∃ a, mg "WORDS" = some (.ref a) ∧ KT K a (ss words)
  joins : ∃ a, mg "JOINS" = some (.ref a) ∧ KT K a (ss joins)
  bare : ∃ a, mg "BARE" = some (.ref a) ∧ KT K a (ss bare)

/-! ### is_row -/
abbrev sRow : Stmt := top 16
def spRow (K : PySem.W.Frag) : Sp := fun vs H Q _ => ∃ v d, vs = [v] ∧ Dx K H v d ∧ ∀ H', Ex H H' → Q (.bl (isRow d)) H'
theorem scRow : FnScope ["value"] ["value"] (defScope sRow) := ⟨rfl, rfl, rfl, by decide +kernel, rfl, by decide +kernel, by decide +kernel⟩
section
variable {P : Program} {w : World} {K : PySem.W.Frag} {mg : Str → Option Value} {base : Heap}
theorem ok_row {f : Addr} {fd : FuncData} (F : Fun K "is_row" "is_row" sRow f fd) (B : Bl mg) : FnOk P w K mg base CX0 1 f fd ["value"] (spRow K) := by
  refine F.ok scRow (fun vs H Q E h => ?_) (fun cdv A outer s H vs Q E hr h => ?_)
  · obtain ⟨v, d, rfl, _⟩ := h
    rfl
  · obtain ⟨v, d, rfl, hd, k⟩ := h
    refine ⟨_, pss_one (ps_ret (pe_callB call_isiT rfl B.isi (by decide +kernel) (pa_cons (pv 0) (pa_cons (pe_tup (pa_cons (pe_bltn (v := .ty "list") rfl B.list (by decide +kernel) rfl) (pa_cons (pe_bltn (v := .ty "tuple") rfl B.tuple (by decide +kernel) rfl) pa_nil))) pa_nil)))), ?_⟩
    refine ⟨_, rfl, (by show 2 ≤ sizeLine; decide), fun t ht => ?_⟩
    refine ⟨v, t, _, _, _, _, rfl, upd_same, .cons (.ty _) (.cons (.ty _) .nil), (Dx.ex (Ex.new ht) d v hd).ty, kit_row K d, k _ (Ex.new ht)⟩
end
end K2
set_option Elab.async false
set_option linter.all false
set_option maxRecDepth 100000
set_option maxHeartbeats 4000000
namespace K2
open PySem L2 Evl
/-! ### is_name -/
abbrev sName : Stmt := top 17
def isName (x : Str) : Bool := !(!(decide ((1 : Int) ≤ x.length) && decide ((x.length : Int) ≤ 8)) || inV (.str x) (ss words)) && x.cps.toList.all fun c => decide (c ∈ letters.cps.toList)
def spName : Sp := fun vs H Q _ => ∃ x, vs = [.str x] ∧ x.length ≤ 1000 ∧ ∀ H', Ex H H' → Q (.bl (isName x)) H'
theorem scName : FnScope ["value", "sign"] ["value"] (defScope sName) := ⟨rfl, rfl, rfl, by decide +kernel, rfl, by decide +kernel, by decide +kernel⟩
theorem flat_ss : ∀ l : List Str, (ss l).all flatV = true := fun l => by
  rw [List.all_eq_true]
  intro x hx
  obtain ⟨y, _, rfl⟩ := List.mem_map.mp hx
  rfl
/-- a comprehension over a text's signs -/
theorem lc_str {x : Str} {g : TG} {tt : TT} {te : TE} {vs : List Nat} {σ : L2.St} {H1 : Hp} {D : Addr} {Qd : Hp → Prop} (Pv : Nat → Hp → Prop) (h0 : Pv 0 (upd H1 D (.lst [])))
    (hs : ∀ i c H, x.cps[i]? = some c → Pv i H → g (.str ⟨#[c]⟩) (wipe σ vs) H fun σ2 H2 => wipe σ2 vs = wipe σ vs ∧ tt σ2 H2 fun b H3 =>
      if b = true then te σ2 H3 fun y H4 => ∃ acc, H4 D = some (.lst acc) ∧ acc.length < sizeLine ∧ Pv (i + 1) (upd H4 D (.lst (acc ++ [y]))) else Pv (i + 1) H3) (hd : ∀ H, Pv x.cps.size H → Qd H) :
    ∃ W : Nat → Nat → Hp → Prop, (∃ m, W 0 m (upd H1 D (.lst []))) ∧ ∀ i m H, W i m H →
      ((Its x).stop i H ∧ Qd H) ∨ ((Its x).go i H ∧ ∃ Nx : Hp → Prop, (∀ H', Nx H' → ∃ m', m' < m ∧ W (i + 1) m' H') ∧ ∀ y H', (Its x).yld i H y H' → g y (wipe σ vs) H' fun σ2 H2 => wipe σ2 vs = wipe σ vs ∧ tt σ2 H2 fun b H3 =>
        if b = true then te σ2 H3 fun y H4 => ∃ acc, H4 D = some (.lst acc) ∧ acc.length < sizeLine ∧ Nx (upd H4 D (.lst (acc ++ [y]))) else Nx H3) := by
  refine ⟨fun i m H => m = x.cps.size - i ∧ i ≤ x.cps.size ∧ Pv i H, ⟨x.cps.size, by simp, Nat.zero_le _, h0⟩, ?_⟩
  rintro i m H ⟨rfl, hi, p⟩
  by_cases hlt : i < x.cps.size
  · refine .inr ⟨hlt, Pv (i + 1), fun H' p' => ⟨x.cps.size - (i + 1), by omega, rfl, hlt, p'⟩, fun y H' z => ?_⟩
    obtain ⟨e, c, hc, rfl⟩ := z
    subst e
    exact hs i c _ hc p
  · have e : i = x.cps.size := by omega
    subst e
    exact .inl ⟨Nat.le_refl _, hd H p⟩
section
variable {K : PySem.W.Frag} {σ : L2.St} {H : Hp} {ta tb tc : TE} {x y z : V} {r r' : R2} {a b : Bool}
theorem ev_chain (ha : Ev ta σ H x) (hb : Ev tb σ H y) (hr : RV r x y H (.bl a)) (hc : a = true → Ev tc σ H z) (hr' : a = true → RV r' y z H (.bl b)) : Ev (tChain r r' ta tb tc) σ H (.bl (a && b)) := fun H1 e Q q =>
  ha H1 e _ fun H2 e2 => hb H2 (e.trans e2) _ fun H3 e3 => hr H3 ((e.trans e2).trans e3) _ fun H4 e4 => ⟨a, rfl, by
    cases a with
    | true =>
      show tc σ H4 _
      exact hc rfl H4 (((e.trans e2).trans e3).trans e4) _ fun H5 e5 => hr' rfl H5 ((((e.trans e2).trans e3).trans e4).trans e5) Q fun H6 e6 => q H6 ((((e2.trans e3).trans e4).trans e5).trans e6)
    | false =>
      show Q (.bl false) H4
      exact q H4 ((e2.trans e3).trans e4)⟩
theorem ev_cbL {r : List V → Hp → VK → Prop} {xs : List V} (h : EvL ta σ H xs) (hr : ∀ p H1, H1 p = some (.lst xs) → Ex H H1 → RC r [.ref p] H1 z) : Ev (tCB r (tCons ta tNil)) σ H z := fun H1 e Q q =>
  h H1 e _ fun p H2 _ e2 h2 => hr p H2 h2 (e.trans e2) H2 (Ex.refl H2) Q fun H3 e3 => q H3 (e2.trans e3)
theorem et_yes {σ : L2.St} {H : Hp} : EvT tYes σ H true := fun H1 _ _ q => q H1 (Ex.refl H1)
theorem rc_isi {c : V} {t u : Value} (k : ClsV c u) (ty : ∀ H', Ex H H' → TyX K H' x t) (e : PySem.W.kitOne K t u = some b) : RC (rIsi K) [x, c] H (.bl b) := fun H1 e1 _ q => ⟨x, c, t, u, b, rfl, k, ty H1 e1, e, q H1 (Ex.refl H1)⟩
theorem rc_lenS {x : Str} (h : x.length ≤ sizeLine) : RC (fun xs H Q => ∃ z : Str, xs = [.str z] ∧ z.length ≤ sizeLine ∧ Q (.int z.length) H) [.str x] H (.int x.length) := fun H1 _ _ q => ⟨x, rfl, h, q H1 (Ex.refl H1)⟩
end
theorem given_list {α : Type} (xs : List α) (p : α → Bool) (g : α → V) {f : Nat → Bool} {v : Nat → V} (hf : ∀ i x, xs[i]? = some x → f i = p x) (hv : ∀ i x, xs[i]? = some x → v i = g x) : given xs.length f v = (xs.filter p).map g := by
  have key : ∀ n, n ≤ xs.length → given n f v = ((xs.take n).filter p).map g := by
    intro n
    induction n with
    | zero => intro _; rfl
    | succ n ih =>
      intro hn
      have hx : xs[n]? = some xs[n] := List.getElem?_eq_getElem (by omega)
      have ht : xs.take (n + 1) = xs.take n ++ [xs[n]] := by rw [List.take_succ, hx] <;> rfl
      rw [ht, List.filter_append, List.map_append]
      cases hp : f n with
      | true =>
        rw [given_yes hp, ih (by omega), hv n _ hx]
        have e : p xs[n] = true := by rw [← hf n _ hx, hp]
        simp [List.filter_cons, e]
      | false =>
        rw [given_no hp, ih (by omega)]
        have e : p xs[n] = false := by rw [← hf n _ hx, hp]
        simp [List.filter_cons, e]
  have q := key xs.length (Nat.le_refl _)
  rw [List.take_length] at q
  exact q
section
variable {K : PySem.W.Frag} {σ : L2.St} {H : Hp} {te tl : TE} {t : TT} {vs : List Nat} {j : Nat}
/-- [e for c in text if t] -/
theorem el_lcS {x : Str} (p : Nat → Bool) (g : Nat → V) (h : Ev tl σ H (.str x)) (hz : x.length ≤ 40000) (hw : ∀ x, wipe ((wipe σ vs).set j (some x)) vs = wipe σ vs)
    (ht : ∀ (c : Nat) H1, Ex H H1 → c ∈ x.cps.toList → EvT t ((wipe σ vs).set j (some (.str ⟨#[c]⟩))) H1 (p c)) (he : ∀ (c : Nat) H1, Ex H H1 → c ∈ x.cps.toList → p c = true → Ev te ((wipe σ vs).set j (some (.str ⟨#[c]⟩))) H1 (g c)) :
    EvL (tLc (iStr tl) (gName j) t te vs) σ H ((x.cps.toList.filter p).map g) := fun H0 e Q q => h H0 e _ fun H1 e1 => ⟨x, rfl, fun Dl hD => by
  obtain ⟨f, hf⟩ : ∃ f : Nat → Bool, ∀ i c, x.cps.toList[i]? = some c → f i = p c := ⟨fun i => match x.cps.toList[i]? with | some c => p c | none => false, fun i c e => by simp only [e]⟩
  obtain ⟨v, hv⟩ : ∃ v : Nat → V, ∀ i c, x.cps.toList[i]? = some c → v i = g c := ⟨fun i => match x.cps.toList[i]? with | some c => g c | none => .non, fun i c e => by simp only [e]⟩
  have eg := given_list x.cps.toList p g hf hv
  have hsz : x.cps.size = x.cps.toList.length := by simp
  have hln : x.cps.size ≤ 40000 := hz
  refine lc_str (Cw H1 f v Dl) ⟨hD, Ex.new hD, upd_same⟩ (fun i c H' hi pp => ⟨hw _, ?_⟩) (fun H' pp => ?_)
  · have hi' : x.cps.toList[i]? = some c := by simpa using hi
    have hm := List.mem_of_getElem? hi'
    have hlt := (List.getElem?_eq_some_iff.mp hi').1
    refine cw_turn pp (by omega) (et_is (ht c H1 (e.trans e1) hm) (hf i c hi').symm) fun hp => ?_
    rw [hv i c hi']
    exact he c H1 (e.trans e1) hm (by rw [← hf i c hi']; exact hp)
  · have e3 := pp.2.2
    rw [hsz, eg] at e3
    exact q Dl H' (fresh_back e1 pp.1) (e1.trans pp.2.1) e3⟩
/-- [e for y in list if t] -/
theorem el_lcA {a : Addr} {xs : List V} (p : V → Bool) (g : V → V) (h : Ev tl σ H (.ref a)) (hx : SqL K H a xs) (hz : xs.length ≤ 40000) (hw : ∀ x, wipe ((wipe σ vs).set j (some x)) vs = wipe σ vs)
    (ht : ∀ (x : V) H1, Ex H H1 → x ∈ xs → EvT t ((wipe σ vs).set j (some x)) H1 (p x)) (he : ∀ (x : V) H1, Ex H H1 → x ∈ xs → p x = true → Ev te ((wipe σ vs).set j (some x)) H1 (g x)) :
    EvL (tLc (iList K tl) (gName j) t te vs) σ H ((xs.filter p).map g) := by
  obtain ⟨f, hf⟩ : ∃ f : Nat → Bool, ∀ i c, xs[i]? = some c → f i = p c := ⟨fun i => match xs[i]? with | some c => p c | none => false, fun i c e => by simp only [e]⟩
  obtain ⟨v, hv⟩ : ∃ v : Nat → V, ∀ i c, xs[i]? = some c → v i = g c := ⟨fun i => match xs[i]? with | some c => g c | none => .non, fun i c e => by simp only [e]⟩
  rw [← given_list xs p g hf hv]
  refine el_lcL f v h hx hz hw (fun i x H1 e hi => et_is (ht x H1 e (List.mem_of_getElem? hi)) (hf i x hi).symm) fun i x H1 e hi hp => ?_
  rw [hv i x hi]
  exact he x H1 e (List.mem_of_getElem? hi) (by rw [← hf i x hi]; exact hp)
end
section
variable {P : Program} {w : World} {K : PySem.W.Frag} {mg : Str → Option Value} {base : Heap}
theorem ok_name {f : Addr} {fd : FuncData} (F : Fun K "is_name" "is_name" sName f fd) (B : Bl mg) (C : Cn K mg) : FnOk P w K mg base CX0 1 f fd ["value"] spName := by
  obtain ⟨tl, hL⟩ := C.letters
  obtain ⟨tm, hM⟩ := C.signs
  obtain ⟨aw, hW, hWt⟩ := C.words
  refine F.ok scName (fun vs H Q E h => ?_) (fun cdv A outer s H vs Q E hr h => ?_)
  · obtain ⟨x, rfl, _⟩ := h
    rfl
  · obtain ⟨x, rfl, hx, k⟩ := h
    refine ⟨_, pss_cons (ps_if (pw_or (pt_not (pt_val (pe_callB call_isi (by rfl) B.isi (by decide +kernel) (pa_cons (pv 0) (pa_cons (pe_bltn (v := .ty "str") (by rfl) B.str (by decide +kernel) rfl) pa_nil)))))
        (pw_or (pt_not (pt_chain op_le op_le pe_int (pe_callB call_len_str (by rfl) B.len (by decide +kernel) (pa_cons (pv 0) pa_nil)) (pe_glob (v := .int 8) (by rfl) hM ⟨_, rfl⟩))) (pw_or1 (pt_cmpR op_in_seq (pv 0) (pe_glob (v := .ref aw) (by rfl) hW rfl) (by with_unfolding_all rfl))))).pt
        (pss_one (ps_ret pe_bl)) pss_nil)
      (pss_one (ps_ret (pe_callB (cr_all rfl) (by rfl) B.all (by decide +kernel) (pa_cons
        (pe_lc (own := [("sign", 1)]) (g := gName 1) (tt := tYes) rfl scName.nd (pi_str (pv 0)) (blkOk_by (N := ["value", "sign"]) (sc := defScope sName) (by decide +kernel))
          (fun _ _ _ _ _ => pg_name (i := 1) scName.nd rfl (Or.inl rfl)) (fun _ _ _ _ _ => pts_nil) (fun _ _ _ _ _ => pe_cmpR op_in_sign (pv 1) (pe_glob (v := .str letters) (by rfl) hL ⟨_, rfl⟩) (by with_unfolding_all rfl))) pa_nil)))), ?_⟩
    have hx2 : x.length ≤ sizeLine := Nat.le_trans hx (by decide)
    refine q_when (b := !(decide ((1 : Int) ≤ x.length) && decide ((x.length : Int) ≤ 8)) || inV (.str x) (ss words)) ?_ (fun hb H1 e1 => ?_) (fun hb H1 e1 => ?_)
    · refine et_is (et_or (b := !(decide ((1 : Int) ≤ x.length) && decide ((x.length : Int) ≤ 8)) || inV (.str x) (ss words)) (et_not (et_B (b := true) (ev_cb (ea_cons (ev_var rfl) (ea_cons ev_c ea_nil)) (rc_isi (.ty _) (fun H' _ => .base (.str x)) (kit_ty (a := "str") (r := true) (by decide +kernel))))))
        (fun _ => et_or (et_not (et_test (ev_chain ev_c (ev_cb (ea_cons (ev_var rfl) ea_nil) (rc_lenS hx2)) rv_I0 (fun _ => ev_c) (fun _ => rv_I0)))) (fun _ => et_test (ev_op (ev_var rfl) ev_c (rv_inT hWt.sq rfl (flat_ss _)))))) ?_
      rfl
    · refine s_ret ev_c fun H2 e2 => ?_
      have e : isName x = false := by unfold isName; rw [hb] <;> rfl
      rw [← e]
      exact k _ (e1.trans e2)
    · refine s_ret (v := .bl (isName x)) (ev_cbL (el_lcS (x := x) (fun _ => true) (fun c => .bl (decide (c ∈ letters.cps.toList))) (ev_var rfl) (by omega) (fun _ => rfl) (fun _ _ _ _ => et_yes) (fun c H3 e3 _ _ => ?_)) fun p H2 h2 e2 => ?_) fun H2 e2 => k _ (e1.trans e2)
      · exact ev_op (ev_var rfl) ev_c (rv_val fun H4 _ Q q => ⟨c, letters, rfl, rfl, q⟩)
      · intro H3 e3 Q2 q2
        refine ⟨p, x.cps.toList.map fun c => decide (c ∈ letters.cps.toList), rfl, ?_, ?_⟩
        · refine sq_of ?_
          rw [e3 _ _ h2, List.map_map, List.filter_eq_self.mpr (fun _ _ => rfl)]
          rfl
        · have e : isName x = (x.cps.toList.map fun c => decide (c ∈ letters.cps.toList)).all id := by
            unfold isName
            rw [hb, List.all_map]
            rfl
          rw [← e]
          exact q2 _ (Ex.refl _)
end
end K2
set_option Elab.async false
set_option linter.all false
set_option maxRecDepth 100000
set_option maxHeartbeats 4000000
namespace K2
open PySem L2 Evl
/-! ### a list beside an empty one -/
section
variable {X : Cx}
def rNeE (K : PySem.W.Frag) : R2 := fun x y H Q => ∃ a b xs, x = .ref a ∧ y = .ref b ∧ SqL K H a xs ∧ SqL K H b [] ∧ Q (.bl (!xs.isEmpty)) H
def rEqE (K : PySem.W.Frag) : R2 := fun x y H Q => ∃ a b xs, x = .ref a ∧ y = .ref b ∧ SqL K H a xs ∧ SqL K H b [] ∧ Q (.bl xs.isEmpty) H
theorem op_neE (hu : X.A.units < cLine) : OpR X (compareOp .NotEq) (rNeE X.K) := by
  intro pins s σ H x y v u Q I rx ry h
  obtain ⟨a, b, xs, rfl, rfl, ha, hb, q⟩ := h
  cases (show v = Value.ref a from rx)
  cases (show u = Value.ref b from ry)
  obtain ⟨us, r1, p1, _⟩ := I.list ha
  obtain ⟨ws, r2, p2, _⟩ := I.list hb
  cases r2
  unfold compareOp
  cases r1 with
  | nil => exact PySem.SeqAt.RcNeAt.lists (e := fun _ => true) p1.isList p2.isList rfl hu (fun j h1 => absurd h1 (by simp)) X.prog X.w X.xe _ ⟨.bl false, H, I, rfl, q⟩
  | cons r t => exact PySem.SeqAt.RcNeAt.lists_lengths p1.isList p2.isList (by simp) hu X.prog X.w X.xe _ ⟨.bl true, H, I, rfl, q⟩
theorem op_eqE (hu : X.A.units < cLine) : OpR X (compareOp .Eq) (rEqE X.K) := by
  intro pins s σ H x y v u Q I rx ry h
  obtain ⟨a, b, xs, rfl, rfl, ha, hb, q⟩ := h
  cases (show v = Value.ref a from rx)
  cases (show u = Value.ref b from ry)
  obtain ⟨us, r1, p1, _⟩ := I.list ha
  obtain ⟨ws, r2, p2, _⟩ := I.list hb
  cases r2
  unfold compareOp
  cases r1 with
  | nil => exact PySem.SeqAt.RcAt.lists (e := fun _ => true) p1.isList p2.isList rfl hu (fun j h1 => absurd h1 (by simp)) X.prog X.w X.xe _ ⟨.bl true, H, I, rfl, q⟩
  | cons r t => exact PySem.SeqAt.RcAt.lists_lengths p1.isList p2.isList (by simp) hu X.prog X.w X.xe _ ⟨.bl false, H, I, rfl, q⟩
end
/-! ### what fixed makes -/
mutual
def fix : PyData → PyData
  | .list ds => .tuple (fixAll ds)
  | .tuple ds => .tuple (fixAll ds)
  | .none => .none
  | .bool b => .bool b
  | .int i => .int i
  | .str x => .str x
  | .dict kvs => .dict kvs
def fixAll : List PyData → List PyData
  | [] => []
  | d :: ds => fix d :: fixAll ds
end
mutual
def nodes : PyData → Nat
  | .list ds => 1 + nodesAll ds
  | .tuple ds => 1 + nodesAll ds
  | .none => 1
  | .bool _ => 1
  | .int _ => 1
  | .str _ => 1
  | .dict _ => 1
def nodesAll : List PyData → Nat
  | [] => 0
  | d :: ds => nodes d + nodesAll ds
end
theorem fixAll_map : ∀ ds, fixAll ds = ds.map fix
  | [] => rfl
  | d :: ds => by rw [fixAll, fixAll_map ds] <;> rfl
def items : PyData → Option (List PyData)
  | .list ds => some ds
  | .tuple ds => some ds
  | _ => none
theorem fix_row {d : PyData} {ds : List PyData} (h : items d = some ds) : fix d = .tuple (fixAll ds) := by
  cases d <;> first | (cases h; rfl) | cases h
theorem fix_leaf {d : PyData} (h : isRow d = false) : fix d = d := by
  cases d <;> first | rfl | cases h
theorem items_row {d : PyData} (h : isRow d = true) : ∃ ds, items d = some ds := by
  cases d <;> first | exact ⟨_, rfl⟩ | cases h
/-! ### the machine of fixed -/
structure Fr where
  t : Addr
  q : Addr
  v : V
  row : PyData
  ds : List PyData
  i : Nat
  dn : List V
def OkF (K : PySem.W.Frag) (G H : Hp) (c : Fr) : Prop := G c.t = some (.tup [c.v, .ref c.q]) ∧ Dx K G c.v c.row ∧ items c.row = some c.ds ∧ c.i < c.ds.length ∧ G c.q = none ∧ H c.q = some (.lst c.dn) ∧ DxAll K G c.dn (fixAll (c.ds.take c.i))
def Fit : PyData → List Fr → PyData → Prop
  | e, [], r => e = r
  | e, c :: cs, r => c.ds[c.i]? = some e ∧ items c.row = some c.ds ∧ Fit c.row cs r
def rest : List Fr → Nat
  | [] => 0
  | c :: cs => 2 * nodesAll (c.ds.drop (c.i + 1)) + 1 + rest cs
/-- frames on the line, bottom first -/
def onLine (ctx : List Fr) : List V := ctx.reverse.map fun c => V.ref c.t
structure Mach (K : PySem.W.Frag) (H0 : Hp) (L : Addr) (G H : Hp) (ctx : List Fr) : Prop where
  e0 : Ex H0 G
  e1 : Ex G H
  l0 : G L = none
  ok : ∀ c ∈ ctx, OkF K G H c
  nd : (L :: ctx.map (·.q)).Nodup
theorem nodes_pos : ∀ d : PyData, 1 ≤ nodes d := fun d => by cases d <;> simp [nodes]
theorem nodes_items {d : PyData} {ds : List PyData} (h : items d = some ds) : nodes d = 1 + nodesAll ds := by
  cases d <;> first | (cases h; rfl) | cases h
theorem nodes_len : ∀ ds : List PyData, ds.length ≤ nodesAll ds
  | [] => Nat.zero_le _
  | d :: ds => by
    have h1 := nodes_len ds
    have h2 := nodes_pos d
    rw [List.length_cons, nodesAll]
    omega
theorem nodes_get : ∀ {ds : List PyData} {i : Nat} {e : PyData}, ds[i]? = some e → nodes e + nodesAll (ds.drop (i + 1)) ≤ nodesAll ds
  | [], _, _, h => by simp at h
  | d :: ds, 0, e, h => by
    simp at h
    subst h
    rw [nodesAll]
    simp
  | d :: ds, i + 1, e, h => by
    simp at h
    have q := nodes_get h
    rw [nodesAll, List.drop_succ_cons]
    omega
theorem nodes_drop {ds : List PyData} {i : Nat} {e : PyData} (h : ds[i]? = some e) : nodesAll (ds.drop i) = nodes e + nodesAll (ds.drop (i + 1)) := by
  obtain ⟨hi, he⟩ := List.getElem?_eq_some_iff.mp h
  rw [List.drop_eq_getElem_cons hi, nodesAll, he]
theorem fit_nodes : ∀ {ctx : List Fr} {e r : PyData}, Fit e ctx r → nodes e + ctx.length ≤ nodes r
  | [], e, r, h => by
    have h : e = r := h
    rw [h]
    exact Nat.le_refl _
  | c :: cs, e, r, h => by
    obtain ⟨h1, h2, h3⟩ := h
    have q := fit_nodes h3
    have q1 := nodes_get h1
    have q2 := nodes_items h2
    rw [List.length_cons]
    omega
section
variable {K : PySem.W.Frag} {H0 G H H' : Hp} {L : Addr} {ctx : List Fr}
theorem OkF.ex {c : Fr} (h : OkF K G H c) (e : Ex H H') : OkF K G H' c := ⟨h.1, h.2.1, h.2.2.1, h.2.2.2.1, h.2.2.2.2.1, e _ _ h.2.2.2.2.2.1, h.2.2.2.2.2.2⟩
theorem Mach.ex (m : Mach K H0 L G H ctx) (e : Ex H H') : Mach K H0 L G H' ctx := ⟨m.e0, m.e1.trans e, m.l0, fun c hc => (m.ok c hc).ex e, m.nd⟩
/-- the line is written -/
theorem Mach.line (m : Mach K H0 L G H ctx) (xs : List V) : Mach K H0 L G (upd H L (.lst xs)) ctx := by
  refine ⟨m.e0, m.e1.mut m.l0, m.l0, fun c hc => ?_, m.nd⟩
  have h := m.ok c hc
  refine ⟨h.1, h.2.1, h.2.2.1, h.2.2.2.1, h.2.2.2.2.1, ?_, h.2.2.2.2.2.2⟩
  rw [upd_ne (fun z => (List.nodup_cons.mp m.nd).1 (by rw [← z]; exact List.mem_map_of_mem hc))]
  exact h.2.2.2.2.2.1
/-- more is known for good -/
theorem Mach.more {p : Addr} {o u : HO} (m : Mach K H0 L G H ctx) (hL : H L = some u) (hp : H p = none) : Mach K H0 L (upd G p o) (upd H p o) ctx := by
  have gp : G p = none := fresh_back m.e1 hp
  have e2 : Ex G (upd G p o) := Ex.new gp
  refine ⟨m.e0.trans e2, fun a u e => ?_, ?_, fun c hc => ?_, m.nd⟩
  · by_cases ha : a = p
    · rw [ha, upd_same] at e ⊢
      exact e
    · rw [upd_ne ha] at e ⊢
      exact m.e1 a u e
  · rw [upd_ne (ne_of_none hL hp)]
    exact m.l0
  · obtain ⟨h1, h2, h3, h4, h5, h6, h7⟩ := m.ok c hc
    refine ⟨e2 _ _ h1, Dx.ex e2 _ _ h2, h3, h4, ?_, ?_, DxAll.ex e2 _ _ h7⟩
    · rw [upd_ne (ne_of_none h6 hp)]
      exact h5
    · rw [upd_ne (ne_of_none h6 hp)]
      exact h6
/-- a frame is put on -/
theorem Mach.cons {c : Fr} (m : Mach K H0 L G H ctx) (hc : OkF K G H c) (nq : ∀ d ∈ ctx, d.q ≠ c.q) (nL : L ≠ c.q) : Mach K H0 L G H (c :: ctx) := by
  refine ⟨m.e0, m.e1, m.l0, fun d hd => ?_, ?_⟩
  · rcases List.mem_cons.mp hd with e | hd
    · subst e
      exact hc
    · exact m.ok d hd
  · have nd := List.nodup_cons.mp m.nd
    rw [List.map_cons, List.nodup_cons, List.nodup_cons]
    refine ⟨fun z => ?_, fun z => ?_, nd.2⟩
    · rcases List.mem_cons.mp z with z | z
      · exact nL z
      · exact nd.1 z
    · obtain ⟨d, hd, e⟩ := List.mem_map.mp z
      exact nq d hd e
theorem Mach.pop {c : Fr} (m : Mach K H0 L G H (c :: ctx)) : Mach K H0 L G H ctx := ⟨m.e0, m.e1, m.l0, fun d hd => m.ok d (List.mem_cons_of_mem _ hd), by
  have nd := m.nd
  rw [List.map_cons, List.nodup_cons, List.nodup_cons] at nd
  rw [List.nodup_cons]
  exact ⟨fun z => nd.1 (List.mem_cons_of_mem _ z), nd.2.2⟩⟩
/-- the upper frame has one value more -/
theorem Mach.step {c : Fr} {dv : V} {e : PyData} (m : Mach K H0 L G H (c :: ctx)) (he : c.ds[c.i]? = some e) (hd : Dx K G dv (fix e)) :
    Mach K H0 L G (upd H c.q (.lst (c.dn ++ [dv]))) ctx ∧ DxAll K G (c.dn ++ [dv]) (fixAll (c.ds.take (c.i + 1))) ∧ (∀ d ∈ ctx, d.q ≠ c.q) ∧ L ≠ c.q := by
  obtain ⟨h1, h2, h3, h4, h5, h6, h7⟩ := m.ok c List.mem_cons_self
  have all : DxAll K G (c.dn ++ [dv]) (fixAll (c.ds.take (c.i + 1))) := by
    rw [List.take_succ, he, fixAll_map, List.map_append, ← fixAll_map]
    exact h7.append (.cons hd .nil)
  have nd := m.nd
  rw [List.map_cons, List.nodup_cons, List.nodup_cons] at nd
  have nq : ∀ d ∈ ctx, d.q ≠ c.q := fun d hd z => nd.2.1 (by rw [← z]; exact List.mem_map_of_mem hd)
  refine ⟨⟨m.e0, m.e1.mut h5, m.l0, fun d hd => ?_, m.pop.nd⟩, all, nq, fun z => nd.1 (by rw [z]; exact List.mem_cons_self)⟩
  obtain ⟨g1, g2, g3, g4, g5, g6, g7⟩ := m.ok d (List.mem_cons_of_mem _ hd)
  refine ⟨g1, g2, g3, g4, g5, ?_, g7⟩
  rw [upd_ne (nq d hd)]
  exact g6
end
theorem row_at {K : PySem.W.Frag} {G : Hp} {v : V} {e : PyData} {ds : List PyData} (h : Dx K G v e) (hi : items e = some ds) : ∃ a xs, v = .ref a ∧ (SqL K G a xs ∨ SqT K G a xs) ∧ DxAll K G xs ds := by
  cases h with
  | lst hs ha => cases hi; exact ⟨_, _, rfl, .inl hs, ha⟩
  | tup hs ha => cases hi; exact ⟨_, _, rfl, .inr hs, ha⟩
  | _ => cases hi
theorem sq_ex {K : PySem.W.Frag} {G H : Hp} {a : Addr} {xs : List V} (e : Ex G H) (h : SqL K G a xs ∨ SqT K G a xs) : SqL K H a xs ∨ SqT K H a xs := h.elim (fun z => .inl (ex_l e z)) fun z => .inr (ex_t e z)
theorem lenV_sq {K : PySem.W.Frag} {H : Hp} {a : Addr} {xs : List V} (h : SqL K H a xs ∨ SqT K H a xs) : LenV K (.ref a) H xs.length := h.elim (fun z => .inl ⟨xs, z, rfl⟩) fun z => .inr ⟨xs, z, rfl⟩
theorem ix_sq {K : PySem.W.Frag} {H : Hp} {a : Addr} {xs : List V} {i : Nat} {v : V} {Q : VK} (h : SqL K H a xs ∨ SqT K H a xs) (hi : xs[i]? = some v) (q : Q v H) : rIx K (.ref a) (.int (i : Int)) H Q :=
  h.elim (fun z => .inl ⟨a, xs, _, v, rfl, rfl, z, atI_nat hi, q⟩) fun z => .inr (.inl ⟨a, xs, _, v, rfl, rfl, z, atI_nat hi, q⟩)
theorem last_snoc (l : List V) (y : V) : (l ++ [y])[(l ++ [y]).length - 1]? = some y := by simp
theorem onLine_cons (c : Fr) (cs : List Fr) : onLine (c :: cs) = onLine cs ++ [.ref c.t] := by
  unfold onLine
  rw [List.reverse_cons, List.map_append] <;> rfl
theorem onLine_len (cs : List Fr) : (onLine cs).length = cs.length := by
  unfold onLine
  rw [List.length_map, List.length_reverse]
theorem sz1000 {n : Nat} (h : n ≤ 2000) : n < sizeLine := Nat.lt_of_le_of_lt h (by decide)
/-- at the head of the loop; m: what is left -/
def Head (K : PySem.W.Frag) (H0 : Hp) (v0 : V) (root : PyData) (m : Nat) (σ : L2.St) (H : Hp) : Prop :=
  ∃ (L : Addr) (G : Hp) (ctx : List Fr) (e : PyData) (xs : List V), Mach K H0 L G H ctx ∧ Fit e ctx root ∧ H L = some (.lst xs) ∧
    ((∃ (t : Addr) (v : V) (dn o p : Option V), xs = onLine ctx ++ [.ref t] ∧ G t = some (.tup [v, .non]) ∧ Dx K G v e ∧ m = 2 * nodes e + rest ctx ∧ σ = [some v0, dn, some (.ref L), o, p]) ∨
      (∃ (c : Fr) (cs : List Fr) (dv : V) (o p : Option V), ctx = c :: cs ∧ xs = onLine ctx ∧ Dx K G dv (fix e) ∧ m = rest ctx + 1 ∧ σ = [some v0, some dv, some (.ref L), o, p]))
/-- if line == []: return done -/
theorem tail {K : PySem.W.Frag} {H0 G H : Hp} {L : Addr} {ctx : List Fr} {e root : PyData} {v0 dv : V} {o p : Option V} {m : Nat} {D : Ends} (mc : Mach K H0 L G H ctx) (hf : Fit e ctx root) (hL : H L = some (.lst (onLine ctx))) (hd : Dx K G dv (fix e))
    (hm : rest ctx + 1 < m) (kr : ∀ u H', Ex H0 H' → Dx K H' u (fix root) → D.rt u H') (kn : ∀ σ' H' m', m' < m → Head K H0 v0 root m' σ' H' → D.nx σ' H') :
    tIfS (tTest (tOp (rEqE K) (tVar 2) (tLst tNil))) (tRet (tVar 1)) tNext D [some v0, some dv, some (.ref L), o, p] H := by
  refine ⟨_, rfl, Nat.zero_le _, fun b hb => ⟨L, b, onLine ctx, rfl, rfl, SqL.of (Ex.new hb _ _ hL), SqL.of upd_same, _, rfl, ?_⟩⟩
  have m1 := mc.ex (Ex.new (o := .lst []) hb)
  cases ctx with
  | nil =>
    have z : e = root := hf
    subst z
    refine iteT ⟨dv, rfl, kr _ _ (m1.e0.trans m1.e1) (Dx.ex m1.e1 _ _ hd)⟩
  | cons c cs =>
    have en : (onLine (c :: cs)).isEmpty = false := by
      unfold onLine
      rw [List.reverse_cons, List.map_append]
      cases (List.map (fun c => V.ref c.t) cs.reverse) <;> rfl
    rw [en]
    refine iteF (kn _ _ _ hm ⟨L, G, c :: cs, e, _, m1, hf, Ex.new hb _ _ hL, .inr ⟨c, cs, dv, o, p, rfl, rfl, hd, rfl, rfl⟩⟩)
/-! ### fixed -/
abbrev sFix : Stmt := top 35
def spFix (K : PySem.W.Frag) : Sp := fun vs H Q _ => ∃ v d, vs = [v] ∧ Dx K H v d ∧ nodes d ≤ 1000 ∧ ∀ u H', Ex H H' → Dx K H' u (fix d) → Q u H'
theorem scFix : FnScope ["value", "done", "line", "one", "parts"] ["value"] (defScope sFix) := ⟨rfl, rfl, rfl, by decide +kernel, rfl, by decide +kernel, by decide +kernel⟩
section
variable {P : Program} {w : World} {K : PySem.W.Frag} {mg : Str → Option Value} {base : Heap}
theorem ok_fix {f fr : Addr} {fd fdr : FuncData} (F : Fun K "fixed" "fixed" sFix f fd) (B : Bl mg) (R : FnOk P w K mg base CX0 1 fr fdr ["value"] (spRow K)) (mr : mg "is_row" = some (.ref fr)) (kr : PySem.W.keepIn K (.ref fr) = true) (br : Binds K fdr ["value"] []) : FnOk P w K mg base CX0 2 f fd ["value"] (spFix K) := by
  refine F.ok scFix (fun vs H Q E h => ?_) (fun cdv A outer s H vs Q E hr h => ?_)
  · obtain ⟨v, d, rfl, _⟩ := h
    rfl
  · obtain ⟨v, d, rfl, hd, hn, k⟩ := h
    have hu : (cxOf CX0 P w K mg base ["value", "done", "line", "one", "parts"] "fixed" (defScope sFix) f cdv A outer s H E).nox.A.units < cLine := by
      have := hu_of hr
      exact Nat.lt_of_le_of_lt (Nat.le_succ _) this
    refine ⟨_, pss_cons (ps_par (i := 1) (j := 2) rfl scFix.nd rfl rfl (by decide) rfl rfl (pa_cons pe_non (pa_cons (pe_lst (pa_cons (pe_tup (pa_cons (pv 0) (pa_cons pe_non pa_nil))) pa_nil)) pa_nil)) (by rfl))
      (pss_cons (ps_while PassesOwn.never (pt_cmpR (op_neE hu) (pv 2) (pe_lst pa_nil) (nomark _))
        (pss_cons (ps_asg (pe_bm0 PySem.F.plainAttrs_list PySem.F.slot_list_pop PySem.F.type_list_pop mt_pop (pv 2)) (pg_tup rfl (pgs_cons (pg_name (i := 3) scFix.nd rfl (Or.inl rfl)) (pgs_cons (pg_name (i := 4) scFix.nd rfl (Or.inl rfl)) pgs_nil))))
          (pss_cons (ps_if (pt_not (pt_val (pe_call R hr (by rfl) mr kr br .nil pass0 (pa_cons (pv 3) pa_nil))))
              (pss_one (ps_set (i := 1) scFix.nd rfl (Or.inl rfl) (pv 3)))
              (pss_one (ps_if (pt_cmp (pc_isN (pv 4)))
                (pss_cons (ps_expr (pe_bm PySem.F.plainAttrs_list PySem.F.slot_list_append PySem.F.type_list_append mt_append (pv 2) (pa_cons (pe_tup (pa_cons (pv 3) (pa_cons (pe_lst pa_nil) pa_nil))) pa_nil)))
                  (pss_cons (ps_set (i := 1) scFix.nd rfl (Or.inl rfl) pe_non)
                    (pss_cons (ps_if (pt_cmpR op_gt (pe_callB call_len (by rfl) B.len (by decide +kernel) (pa_cons (pv 3) pa_nil)) pe_int (nomark _))
                        (pss_cons (ps_expr (pe_bm PySem.F.plainAttrs_list PySem.F.slot_list_append PySem.F.type_list_append mt_append (pv 2) (pa_cons (pe_tup (pa_cons (pe_ix ix_seq (pv 3) pe_int (fun _ _ => rfl)) (pa_cons pe_non pa_nil))) pa_nil)))
                          (pss_one ps_continue)) pss_nil)
                      (pss_cons (ps_expr (pe_bm0 PySem.F.plainAttrs_list PySem.F.slot_list_pop PySem.F.type_list_pop mt_pop (pv 2)))
                        (pss_one (ps_set (i := 1) scFix.nd rfl (Or.inl rfl) (pe_tup pa_nil)))))))
                (pss_cons (ps_expr (pe_bm PySem.F.plainAttrs_list PySem.F.slot_list_append PySem.F.type_list_append mt_append (pv 4) (pa_cons (pv 1) pa_nil)))
                  (pss_cons (ps_if (pt_cmpR op_lt (pe_callB call_len (by rfl) B.len (by decide +kernel) (pa_cons (pv 4) pa_nil)) (pe_callB call_len (by rfl) B.len (by decide +kernel) (pa_cons (pv 3) pa_nil)) (nomark _))
                      (pss_cons (ps_expr (pe_bm PySem.F.plainAttrs_list PySem.F.slot_list_append PySem.F.type_list_append mt_append (pv 2) (pa_cons (pe_tup (pa_cons (pv 3) (pa_cons (pv 4) pa_nil))) pa_nil)))
                        (pss_cons (ps_expr (pe_bm PySem.F.plainAttrs_list PySem.F.slot_list_append PySem.F.type_list_append mt_append (pv 2) (pa_cons (pe_tup (pa_cons (pe_ix ix_seq (pv 3) (pe_callB call_len (by rfl) B.len (by decide +kernel) (pa_cons (pv 4) pa_nil)) (fun _ _ => rfl)) (pa_cons pe_non pa_nil))) pa_nil)))
                          (pss_one ps_continue))) pss_nil)
                    (pss_one (ps_set (i := 1) scFix.nd rfl (Or.inl rfl) (pe_tupleOf (by rfl) B.tuple (pv 4)))))))))
            (pss_one (ps_if (pt_cmpR (op_eqE hu) (pv 2) (pe_lst pa_nil) (nomark _)) (pss_one (ps_ret (pv 1))) pss_nil)))))
        (pss_one (ps_ret (pv 1)))), ?_⟩
    refine ⟨v, rfl, (by show 2 ≤ sizeLine; decide), fun t ht => ⟨(by show 1 ≤ sizeLine; decide), fun L hL => ⟨_, _, rfl, ?_⟩⟩⟩
    refine ⟨Head K H v d, ⟨2 * nodes d + 0, L, upd H t (.tup [v, .non]), [], d, [.ref t], ⟨Ex.new ht, Ex.new hL, hL, fun c hc => (by cases hc), by simp⟩, rfl, upd_same, .inl ⟨t, v, some .non, none, none, rfl, upd_same, Dx.ex (Ex.new ht) _ _ hd, rfl, rfl⟩⟩, ?_⟩
    intro m σ H1 hh
    obtain ⟨L, G, ctx, e, xs, mc, hf, hL1, hcase⟩ := hh
    have hsz := fit_nodes hf
    rcases hcase with ⟨t0, v1, dn0, o0, p0, rfl, ht0, hd0, rfl, rfl⟩ | ⟨c, cs, dv, o0, p0, rfl, rfl, hdv, rfl, rfl⟩
    · -- down
      refine ⟨_, rfl, Nat.zero_le _, fun b hb => ⟨L, b, _, rfl, rfl, SqL.of (Ex.new hb _ _ hL1), SqL.of upd_same, _, rfl, ?_⟩⟩
      have m2 := (mc.ex (Ex.new (o := .lst []) hb)).line (onLine ctx)
      have hL2 := Ex.new (o := .lst []) hb _ _ hL1
      rw [show (!(onLine ctx ++ [V.ref t0]).isEmpty) = true from by simp]
      refine iteT ⟨fun σ' H' => ∃ m', m' < 2 * nodes e + rest ctx ∧ Head K H v d m' σ' H', fun _ _ h => h, ?_⟩
      refine ⟨_, rfl, .inl ⟨rfl, _, SqL.of hL2⟩, L, _, _, rfl, rfl, hL2, last_snoc _ _, t0, [v1, .non], rfl, SqT.of ?_, rfl, v1, _, rfl, .non, _, rfl, rfl, ?_⟩
      · rw [List.dropLast_concat]
        exact m2.e1 _ _ ht0
      rw [List.dropLast_concat]
      refine ⟨_, rfl, v1, e, rfl, Dx.ex m2.e1 _ _ hd0, fun H3 e3 => ⟨_, rfl, ?_⟩⟩
      have m3 := m2.ex e3
      have hL3 : H3 L = some (.lst (onLine ctx)) := e3 _ _ upd_same
      have hp := nodes_pos e
      cases hr0 : isRow e with
      | false =>
        refine iteT ⟨v1, rfl, ?_⟩
        refine tail m3 hf hL3 (by rw [fix_leaf hr0]; exact hd0) (m := 2 * nodes e + rest ctx) (by omega) (fun u H' e' h' => k u H' e' h') (fun σ' H' m' hlt hh => ⟨m', hlt, hh⟩)
      | true =>
        obtain ⟨ds, hds⟩ := items_row hr0
        obtain ⟨a, ys, rfl, hsq, hys⟩ := row_at hd0 hds
        have hnd := nodes_items hds
        refine iteF ⟨.non, rfl, _, rfl, ?_⟩
        rw [show decide (V.non = V.non) = true from decide_eq_true rfl]
        refine iteT ?_
        -- line.append((one, []))
        refine ⟨_, rfl, .inl ⟨rfl, _, SqL.of hL3⟩, _, rfl, Nat.zero_le _, fun q hq => ⟨(by show 2 ≤ sizeLine; decide), fun t1 ht1 => ?_⟩⟩
        have hLq : upd H3 q (.lst []) L = some (.lst (onLine ctx)) := Ex.new hq _ _ hL3
        have gq : G q = none := fresh_back m3.e1 hq
        have gt1 : G t1 = none := fresh_back m3.e1 (fresh_back (Ex.new hq) ht1)
        have m4 := (m3.ex (Ex.new (o := .lst []) hq)).more (o := .tup [.ref a, .ref q]) hLq ht1
        have hL4 : upd (upd H3 q (.lst [])) t1 (.tup [.ref a, .ref q]) L = some (.lst (onLine ctx)) := Ex.new ht1 _ _ hLq
        have q4 : upd (upd H3 q (.lst [])) t1 (.tup [.ref a, .ref q]) q = some (.lst []) := Ex.new ht1 _ _ upd_same
        have nqL : q ≠ L := fun z => by rw [z, hL3] at hq; cases hq
        have nqt : q ≠ t1 := fun z => by rw [z] at ht1; rw [upd_same] at ht1; cases ht1
        refine ⟨L, _, _, rfl, rfl, hL4, sz1000 (by rw [onLine_len]; omega), ?_⟩
        have m5 := m4.line (onLine ctx ++ [.ref t1])
        have g1 : Ex G (upd G t1 (.tup [.ref a, .ref q])) := Ex.new gt1
        have hq5 : upd (upd (upd H3 q (.lst [])) t1 (.tup [.ref a, .ref q])) L (.lst (onLine ctx ++ [.ref t1])) q = some (.lst []) := by rw [upd_ne nqL]; exact q4
        have nqc : ∀ c ∈ ctx, c.q ≠ q := fun c hc z => by
          have y := (m3.ok c hc).2.2.2.2.2.1
          rw [z, hq] at y
          cases y
        -- done = None; if len(one) > 0
        have hsq5 := sq_ex (g1.trans m5.e1) hsq
        have hlen : ys.length = ds.length := hys.length
        refine ⟨_, rfl, _, _, rfl, lenV_sq hsq5, _, _, rfl, rfl, _, rfl, ?_⟩
        cases ds with
        | nil =>
          have e0 : ys = [] := List.length_eq_zero_iff.mp hlen
          subst e0
          refine iteF ⟨_, rfl, .inl ⟨rfl, _, SqL.of upd_same⟩, L, _, _, rfl, rfl, upd_same, last_snoc _ _, (by show 0 ≤ sizeLine; decide), fun t2 ht2 => ?_⟩
          rw [List.dropLast_concat] at ht2 ⊢
          rw [upd_upd] at ht2 ⊢
          have m6 := m4.line (onLine ctx)
          have m7 := m6.more (o := .tup []) upd_same ht2
          refine tail m7 hf (Ex.new ht2 _ _ upd_same) (by rw [fix_row hds]; exact .tup (st_of upd_same) .nil) (m := 2 * nodes e + rest ctx) (by omega) (fun u H' e' h' => k u H' e' h') (fun σ' H' m' hlt hh => ⟨m', hlt, hh⟩)
        | cons d1 ds =>
          cases ys with
          | nil => cases hlen
          | cons y1 ys =>
            rw [show decide ((0 : Int) < (((y1 :: ys).length : Nat) : Int)) = true from decide_eq_true (by rw [List.length_cons]; omega)]
            refine iteT ?_
            have hd1 : Dx K G y1 d1 := by cases hys; assumption
            refine ⟨_, rfl, .inl ⟨rfl, _, SqL.of upd_same⟩, _, rfl, ix_sq (i := 0) hsq5 rfl ⟨(by show 2 ≤ sizeLine; decide), fun t2 ht2 => ?_⟩⟩
            have m6 := m5.more (o := .tup [y1, .non]) upd_same ht2
            refine ⟨L, _, _, rfl, rfl, Ex.new ht2 _ _ upd_same, sz1000 (by rw [List.length_append, onLine_len]; simp; omega), ?_⟩
            have m7 := m6.line (onLine ctx ++ [.ref t1] ++ [.ref t2])
            have gt2 : upd G t1 (.tup [.ref a, .ref q]) t2 = none := fresh_back m5.e1 ht2
            have g2 : Ex (upd G t1 (.tup [.ref a, .ref q])) (upd (upd G t1 (.tup [.ref a, .ref q])) t2 (.tup [y1, .non])) := Ex.new gt2
            have nt2 : q ≠ t2 := ne_of_none hq5 ht2
            have m8 := m7.cons (c := ⟨t1, q, .ref a, e, d1 :: ds, 0, []⟩) ⟨g2 _ _ upd_same, Dx.ex (g1.trans g2) _ _ hd0, hds, Nat.succ_pos _, by rw [upd_ne nt2, upd_ne nqt]; exact gq, by rw [upd_ne nqL]; exact Ex.new ht2 _ _ hq5, .nil⟩ nqc (Ne.symm nqL)
            have hn1 := nodesAll.eq_2 d1 ds
            refine ⟨2 * nodes d1 + rest (⟨t1, q, .ref a, e, d1 :: ds, 0, []⟩ :: ctx), ?_, L, _, _, d1, _, m8, ⟨rfl, hds, hf⟩, upd_same, .inl ⟨t2, y1, _, _, _, ?_, upd_same, Dx.ex (g1.trans g2) _ _ hd1, rfl, rfl⟩⟩
            · show 2 * nodes d1 + (2 * nodesAll ds + 1 + rest ctx) < _
              omega
            · rw [onLine_cons]
    · -- up
      refine ⟨_, rfl, Nat.zero_le _, fun b hb => ⟨L, b, _, rfl, rfl, SqL.of (Ex.new hb _ _ hL1), SqL.of upd_same, _, rfl, ?_⟩⟩
      have m2 := (mc.ex (Ex.new (o := .lst []) hb)).line (onLine cs)
      have hL2 := Ex.new (o := .lst []) hb _ _ hL1
      obtain ⟨he, hrow, hf2⟩ := hf
      rw [onLine_cons] at hL2 ⊢
      rw [show (!(onLine cs ++ [V.ref c.t]).isEmpty) = true from by simp]
      refine iteT ⟨fun σ' H' => ∃ m', m' < rest (c :: cs) + 1 ∧ Head K H v d m' σ' H', fun _ _ h => h, ?_⟩
      have hct := (m2.ok c List.mem_cons_self).1
      refine ⟨_, rfl, .inl ⟨rfl, _, SqL.of hL2⟩, L, _, _, rfl, rfl, hL2, last_snoc _ _, c.t, [c.v, .ref c.q], rfl, SqT.of ?_, rfl, c.v, _, rfl, .ref c.q, _, rfl, rfl, ?_⟩
      · rw [List.dropLast_concat]
        exact m2.e1 _ _ hct
      rw [List.dropLast_concat]
      obtain ⟨h1, h2, h3, h4, h5, h6, h7⟩ := m2.ok c List.mem_cons_self
      refine ⟨_, rfl, c.v, c.row, rfl, Dx.ex m2.e1 _ _ h2, fun H3 e3 => ⟨_, rfl, ?_⟩⟩
      have m3 := m2.ex e3
      have hL3 : H3 L = some (.lst (onLine cs)) := e3 _ _ upd_same
      have hr0 : isRow c.row = true := by
        cases hc : c.row <;> rw [hc] at hrow <;> first | rfl | cases hrow
      rw [hr0]
      refine iteF ⟨.ref c.q, rfl, _, rfl, ?_⟩
      rw [show decide (V.ref c.q = V.non) = false from decide_eq_false (fun z => nomatch z)]
      refine iteF ?_
      -- parts.append(done)
      obtain ⟨m4, hall, nq, nL⟩ := m3.step he hdv
      have hq3 : H3 c.q = some (.lst c.dn) := e3 _ _ h6
      have hdl : c.dn.length = c.i := by
        rw [h7.length, fixAll_map, List.length_map, List.length_take]
        omega
      have hcl := (List.getElem?_eq_some_iff.mp he).1
      have hsz2 := fit_nodes hf2
      have hnr := nodes_items hrow
      have hnl := nodes_len c.ds
      refine ⟨_, rfl, .inl ⟨rfl, _, SqL.of hq3⟩, _, rfl, c.q, _, _, rfl, rfl, hq3, sz1000 (by omega), ?_⟩
      obtain ⟨a, ys, hv, hsq, hys⟩ := row_at h2 hrow
      have hlen : ys.length = c.ds.length := hys.length
      have h2' : Dx K G (.ref a) c.row := by
        rw [← hv]
        exact h2
      have hL4 : upd H3 c.q (.lst (c.dn ++ [dv])) L = some (.lst (onLine cs)) := by rw [upd_ne nL]; exact hL3
      rw [hv]
      refine ⟨_, rfl, _, _, rfl, .inl ⟨_, SqL.of upd_same, rfl⟩, _, rfl, _, _, rfl, lenV_sq (sq_ex m4.e1 hsq), _, _, rfl, rfl, _, rfl, ?_⟩
      have hdl2 : (c.dn ++ [dv]).length = c.i + 1 := by rw [List.length_append, hdl] <;> rfl
      by_cases hlt : c.i + 1 < c.ds.length
      · rw [show decide ((((c.dn ++ [dv]).length : Nat) : Int) < ((ys.length : Nat) : Int)) = true from decide_eq_true (by rw [hdl2, hlen]; omega)]
        refine iteT ?_
        -- line.append((one, parts))
        refine ⟨_, rfl, .inl ⟨rfl, _, SqL.of hL4⟩, _, rfl, _, rfl, (by show 2 ≤ sizeLine; decide), fun t3 ht3 => ?_⟩
        have m5 := m4.more (o := .tup [.ref a, .ref c.q]) hL4 ht3
        refine ⟨L, _, _, rfl, rfl, Ex.new ht3 _ _ hL4, sz1000 (by rw [onLine_len]; omega), ?_⟩
        have m6 := m5.line (onLine cs ++ [.ref t3])
        have gt3 : G t3 = none := fresh_back m4.e1 ht3
        have g1 : Ex G (upd G t3 (.tup [.ref a, .ref c.q])) := Ex.new gt3
        have nqt3 : c.q ≠ t3 := ne_of_none (upd_same (H := H3) (a := c.q) (o := .lst (c.dn ++ [dv]))) ht3
        have hq6 : upd (upd (upd H3 c.q (.lst (c.dn ++ [dv]))) t3 (.tup [.ref a, .ref c.q])) L (.lst (onLine cs ++ [.ref t3])) c.q = some (.lst (c.dn ++ [dv])) := by
          rw [upd_ne (Ne.symm nL), upd_ne nqt3, upd_same]
        have m7 := m6.cons (c := ⟨t3, c.q, .ref a, c.row, c.ds, c.i + 1, c.dn ++ [dv]⟩) ⟨upd_same, Dx.ex g1 _ _ h2', hrow, hlt, by rw [upd_ne nqt3]; exact h5, hq6, DxAll.ex g1 _ _ hall⟩ nq nL
        obtain ⟨y1, hy1, hdy⟩ := hys.get (List.getElem?_eq_getElem hlt)
        have hq7 := sq_ex (g1.trans m6.e1) hsq
        -- line.append((one[len(parts)], None))
        refine ⟨_, rfl, .inl ⟨rfl, _, SqL.of upd_same⟩, _, rfl, _, rfl, _, _, rfl, .inl ⟨_, SqL.of hq6, rfl⟩, ?_⟩
        rw [hdl2]
        refine ix_sq hq7 hy1 ⟨(by show 2 ≤ sizeLine; decide), fun t4 ht4 => ?_⟩
        have m8 := m7.more (o := .tup [y1, .non]) upd_same ht4
        refine ⟨L, _, _, rfl, rfl, Ex.new ht4 _ _ upd_same, sz1000 (by rw [List.length_append, onLine_len]; simp; omega), ?_⟩
        have m9 := m8.line (onLine cs ++ [.ref t3] ++ [.ref t4])
        have gt4 : upd G t3 (.tup [.ref a, .ref c.q]) t4 = none := fresh_back m6.e1 ht4
        have g2 : Ex (upd G t3 (.tup [.ref a, .ref c.q])) (upd (upd G t3 (.tup [.ref a, .ref c.q])) t4 (.tup [y1, .non])) := Ex.new gt4
        have hnd := nodes_drop (List.getElem?_eq_getElem hlt)
        refine ⟨2 * nodes c.ds[c.i + 1] + rest (⟨t3, c.q, .ref a, c.row, c.ds, c.i + 1, c.dn ++ [dv]⟩ :: cs), ?_, L, _, _, _, _, m9, ⟨List.getElem?_eq_getElem hlt, hrow, hf2⟩, upd_same, .inl ⟨t4, y1, _, _, _, ?_, upd_same, Dx.ex (g1.trans g2) _ _ hdy, rfl, rfl⟩⟩
        · show 2 * nodes c.ds[c.i + 1] + (2 * nodesAll (c.ds.drop (c.i + 1 + 1)) + 1 + rest cs) < 2 * nodesAll (c.ds.drop (c.i + 1)) + 1 + rest cs + 1
          omega
        · rw [onLine_cons]
      · rw [show decide ((((c.dn ++ [dv]).length : Nat) : Int) < ((ys.length : Nat) : Int)) = false from decide_eq_false (by rw [hdl2, hlen]; omega)]
        refine iteF ⟨_, rfl, .inl ⟨c.q, _, rfl, SqL.of upd_same, fun t4 ht4 => ?_⟩⟩
        have m5 := m4.more (o := .tup (c.dn ++ [dv])) hL4 ht4
        have gt4 : G t4 = none := fresh_back m4.e1 ht4
        refine tail m5 hf2 (Ex.new ht4 _ _ hL4) (by
          rw [fix_row hrow]
          rw [List.take_of_length_le (by omega)] at hall
          exact .tup (st_of upd_same) (DxAll.ex (Ex.new gt4) _ _ hall)) (m := rest (c :: cs) + 1) (by show rest cs + 1 < 2 * nodesAll (c.ds.drop (c.i + 1)) + 1 + rest cs + 1; omega) (fun u H' e' h' => k u H' e' h') (fun σ' H' m' hlt hh => ⟨m', hlt, hh⟩)
end
end K2
set_option Elab.async false
set_option linter.all false
set_option maxRecDepth 100000
set_option maxHeartbeats 4000000
namespace K2
open PySem L2 Evl
/-! ### statement_in -/
def stepRow : List PyData → Option (List PyData)
  | [.str w, a, b] => if inV (.str w) (ss joins) then some [a, b] else none
  | _ => none
def stepD : PyData → Option (List PyData)
  | .str x => if inV (.str x) (ss bare) || isName x then some [] else none
  | .list ds => stepRow ds
  | .tuple ds => stepRow ds
  | _ => none
def chk : Nat → List PyData → Bool
  | _, [] => true
  | 0, _ :: _ => false
  | n + 1, t :: ts => match stepD t with
    | none => false
    | some cs => chk n (cs ++ ts)
mutual
def tame : PyData → Bool
  | .list ds => tameAll ds
  | .tuple ds => tameAll ds
  | .str x => decide (x.length ≤ 1000)
  | .none => true
  | .bool _ => true
  | .int _ => true
  | .dict _ => true
def tameAll : List PyData → Bool
  | [] => true
  | d :: ds => tame d && tameAll ds
end
theorem tameAll_mem : ∀ {ds : List PyData}, tameAll ds = true → ∀ d ∈ ds, tame d = true
  | [], _, d, h => by cases h
  | e :: ds, t, d, h => by
    rw [tameAll, Bool.and_eq_true] at t
    rcases List.mem_cons.mp h with z | h
    · rw [z]; exact t.1
    · exact tameAll_mem t.2 d h
theorem tame_items {d : PyData} {ds : List PyData} (h : items d = some ds) (t : tame d = true) : tameAll ds = true := by
  cases d <;> first | (cases h; exact t) | cases h
theorem step_row {d : PyData} {ds : List PyData} (h : items d = some ds) : stepD d = stepRow ds := by
  cases d <;> first | (cases h; rfl) | cases h
theorem step_odd {d : PyData} (h1 : isRow d = false) (h2 : isTxt d = false) : stepD d = none := by
  cases d <;> first | rfl | exact Bool.noConfusion (show true = false from h1) | exact Bool.noConfusion (show true = false from h2)
theorem stepRow_len {ds : List PyData} (h : ds.length ≠ 3) : stepRow ds = none := by
  unfold stepRow
  split
  · exact absurd rfl h
  · rfl
theorem stepRow_txt {d a b : PyData} (h : isTxt d = false) : stepRow [d, a, b] = none := by
  cases d <;> first | rfl | cases h
abbrev sIn : Stmt := top 38
def spIn (K : PySem.W.Frag) : Sp := fun vs H Q _ => ∃ v d, vs = [v] ∧ Dx K H v d ∧ tame d = true ∧ nodes d ≤ 1000 ∧ (chk 24 [d] = true → ∀ u H', Ex H H' → Dx K H' u (fix d) → Q u H') ∧ (chk 24 [d] = false → ∀ H', Ex H H' → Q .non H')
def nIn : List Str := ["value", "line", "many", "one"]
theorem scIn : FnScope nIn ["value"] (defScope sIn) := ⟨rfl, rfl, rfl, by decide +kernel, rfl, by decide +kernel, by decide +kernel⟩
def HeadIn (K : PySem.W.Frag) (H : Hp) (v : V) (d : PyData) (L : Addr) (m : Nat) (σ : L2.St) (H1 : Hp) : Prop :=
  ∃ (xs : List V) (ts : List PyData) (n : Nat) (o : Option V), Ex H H1 ∧ H1 L = some (.lst xs) ∧ DxAll K H xs.reverse ts ∧ chk 24 [d] = chk n ts ∧ n ≤ 24 ∧ tameAll ts = true ∧ xs.length ≤ 100 - 2 * n ∧ m = n + 1 ∧ σ = [some v, some (.ref L), some (.int (24 - (n : Int))), o]
section
variable {K : PySem.W.Frag} {σ : L2.St} {H : Hp} {ta : TE} {y : V} {t : PyData}
theorem ev_isRow (ha : Ev ta σ H y) (hd : Dx K H y t) : Ev (tCB (rIsiT K) (tCons ta (tCons (tTup (tCons (tC (.ty "list")) (tCons (tC (.ty "tuple")) tNil))) tNil))) σ H (.bl (isRow t)) := fun H1 e Q q =>
  ha H1 e _ fun H2 e2 => ⟨(by show 2 ≤ sizeLine; decide), fun p hp => ⟨y, p, _, _, _, _, rfl, upd_same, .cons (.ty _) (.cons (.ty _) .nil), (Dx.ex ((e.trans e2).trans (Ex.new hp)) t y hd).ty, kit_row K t, q _ (e2.trans (Ex.new hp))⟩⟩
theorem ev_isTxt (ha : Ev ta σ H y) (hd : Dx K H y t) : Ev (tCB (rIsi K) (tCons ta (tCons (tC (.ty "str")) tNil))) σ H (.bl (isTxt t)) := ev_cb (ea_cons ha (ea_cons ev_c ea_nil)) (rc_isi (.ty _) (fun H' e => (Dx.ex e _ _ hd).ty) (kit_txt K t))
/-- len of a row -/
def rLenV (K : PySem.W.Frag) : List V → Hp → VK → Prop := fun xs H Q => ∃ x n, xs = [x] ∧ LenV K x H n ∧ Q (.int n) H
theorem ev_lenV {a : Addr} {xs : List V} (ha : Ev ta σ H (.ref a)) (h : SqL K H a xs ∨ SqT K H a xs) : Ev (tCB (rLenV K) (tCons ta tNil)) σ H (.int (xs.length : Nat)) := ev_cb (ea_cons ha ea_nil) fun H1 e Q q => ⟨_, _, rfl, lenV_sq (sq_ex e h), q H1 (Ex.refl H1)⟩
theorem rv_ixQ {a : Addr} {xs : List V} {i : Nat} {v : V} (h : SqL K H a xs ∨ SqT K H a xs) (hi : xs[i]? = some v) : RV (rIx K) (.ref a) (.int (i : Int)) H v := fun H1 e Q q => ix_sq (sq_ex e h) hi (q H1 (Ex.refl H1))
end
/-- a def of the text that may be called by its name -/
structure Cal (P : Program) (w : World) (K : PySem.W.Frag) (mg : Str → Option Value) (base : Heap) (CX : CXT) (k : Nat) (x : Str) (ps : List Str) (sp : Sp) : Prop where
  ex : ∃ (f : Addr) (fd : FuncData), FnOk P w K mg base CX k f fd ps sp ∧ mg x = some (.ref f) ∧ PySem.W.keepIn K (.ref f) = true ∧ Binds K fd ps []
section
variable {P : Program} {w : World} {K : PySem.W.Frag} {mg : Str → Option Value} {base : Heap}
theorem ok_in {f : Addr} {fd : FuncData} (F : Fun K "statement_in" "statement_in" sIn f fd) (B : Bl mg) (C : Cn K mg) (N : Cal P w K mg base CX0 1 "is_name" ["value"] spName) (X : Cal P w K mg base CX0 2 "fixed" ["value"] (spFix K)) : FnOk P w K mg base CX0 3 f fd ["value"] (spIn K) := by
  obtain ⟨fn, fdn, Fn, mn, kn, bn⟩ := N.ex
  obtain ⟨fx, fdx, Fx, mx, kx, bx⟩ := X.ex
  obtain ⟨tp, hMP⟩ := C.parts
  obtain ⟨aj, hJ, hJt⟩ := C.joins
  obtain ⟨ab, hB, hBt⟩ := C.bare
  refine F.ok scIn (fun vs H Q E h => ?_) (fun cdv A outer s H vs Q E hr h => ?_)
  · obtain ⟨v, d, rfl, _⟩ := h
    rfl
  · obtain ⟨v, d, rfl, hd, htm, hn, kt, kf⟩ := h
    have hu : (cxOf CX0 P w K mg base nIn "statement_in" (defScope sIn) f cdv A outer s H E).nox.A.units < cLine := by
      have := hu_of hr
      exact Nat.lt_of_le_of_lt (Nat.le_succ _) this
    refine ⟨_, pss_cons (ps_par (i := 1) (j := 2) rfl scIn.nd rfl rfl (by decide) rfl rfl (pa_cons (pe_lst (pa_cons (pv 0) pa_nil)) (pa_cons pe_int pa_nil)) (by rfl))
      (pss_cons (ps_while PassesOwn.never (pt_cmpR (op_neE hu) (pv 1) (pe_lst pa_nil) (nomark _))
        (pss_cons (ps_par (i := 3) (j := 2) rfl scIn.nd rfl rfl (by decide) rfl rfl (pa_cons (pe_bm0 PySem.F.plainAttrs_list PySem.F.slot_list_pop PySem.F.type_list_pop mt_pop (pv 1)) (pa_cons (pe_op op_add (pv 2) pe_int) pa_nil)) (by rfl))
          (pss_cons (ps_if (pt_cmpR op_gt (pv 2) (pe_glob (v := .int 24) (by rfl) hMP ⟨_, rfl⟩) (nomark _)) (pss_one (ps_ret pe_non)) pss_nil)
            (pss_one (ps_if (pt_val (pe_callB call_isi (by rfl) B.isi (by decide +kernel) (pa_cons (pv 3) (pa_cons (pe_bltn (v := .ty "str") (by rfl) B.str (by decide +kernel) rfl) pa_nil))))
              (pss_one (ps_if (pw_and (pt_cmpR op_notIn_seq (pv 3) (pe_glob (v := .ref ab) (by rfl) hB rfl) (by with_unfolding_all rfl)) (pw_and1 (pt_not (pt_val (pe_call Fn (hr.mono (by decide)) (by rfl) mn kn bn .nil pass0 (pa_cons (pv 3) pa_nil)))))).pt
                (pss_one (ps_ret pe_non)) pss_nil))
              (pss_one (ps_if (pw_and (pt_val (pe_callB call_isiT (by rfl) B.isi (by decide +kernel) (pa_cons (pv 3) (pa_cons (pe_tup (pa_cons (pe_bltn (v := .ty "list") (by rfl) B.list (by decide +kernel) rfl) (pa_cons (pe_bltn (v := .ty "tuple") (by rfl) B.tuple (by decide +kernel) rfl) pa_nil))) pa_nil))))
                  (pw_and (pt_cmpR op_eq (pe_callB call_len (by rfl) B.len (by decide +kernel) (pa_cons (pv 3) pa_nil)) pe_int (nomark _))
                    (pw_and (pt_val (pe_callB call_isi (by rfl) B.isi (by decide +kernel) (pa_cons (pe_ix ix_seq (pv 3) pe_int (fun _ _ => rfl)) (pa_cons (pe_bltn (v := .ty "str") (by rfl) B.str (by decide +kernel) rfl) pa_nil))))
                      (pw_and1 (pt_cmpR op_in_seq (pe_ix ix_seq (pv 3) pe_int (fun _ _ => rfl)) (pe_glob (v := .ref aj) (by rfl) hJ rfl) (by with_unfolding_all rfl)))))).pt
                (pss_one (ps_expr (pe_bm PySem.F.plainAttrs_list PySem.F.slot_list_extend PySem.F.type_list_extend mt_extend (pv 1) (pa_cons (pe_lst (pa_cons (pe_ix ix_seq (pv 3) pe_int (fun _ _ => rfl)) (pa_cons (pe_ix ix_seq (pv 3) pe_int (fun _ _ => rfl)) pa_nil))) pa_nil))))
                (pss_one (ps_ret pe_non)))))))))
        (pss_one (ps_ret (pe_call Fx hr (by rfl) mx kx bx .nil pass0 (pa_cons (pv 0) pa_nil))))), ?_⟩
    refine ⟨v, rfl, (by show 1 ≤ sizeLine; decide), fun L hL => ⟨_, _, rfl, ?_⟩⟩
    refine ⟨HeadIn K H v d L, ⟨25, [v], [d], 24, none, Ex.new hL, upd_same, .cons hd .nil, rfl, Nat.le_refl _, by rw [tameAll, htm] <;> rfl, by simp, rfl, rfl⟩, ?_⟩
    have hL0 := hL
    rintro m σ H1 ⟨xs, ts, n, o, e1, hL1, hts, hck, hn24, htt, hxl, rfl, rfl⟩
    refine ⟨_, rfl, Nat.zero_le _, fun b hb => ⟨L, b, _, rfl, rfl, SqL.of (Ex.new hb _ _ hL1), SqL.of upd_same, _, rfl, ?_⟩⟩
    have e2 : Ex H (upd H1 b (.lst [])) := e1.trans (Ex.new hb)
    have hL2 := Ex.new (o := .lst []) hb _ _ hL1
    rcases List.eq_nil_or_concat xs with e | ⟨ys, y, e⟩
    · subst e
      cases hts
      have ht : chk 24 [d] = true := by rw [hck]; cases n <;> rfl
      refine iteF ⟨_, rfl, v, d, rfl, Dx.ex e2 _ _ hd, hn, fun u H' e' hu' => kt ht u H' (e2.trans e') hu'⟩
    · rw [List.concat_eq_append] at e
      subst e
      rw [List.reverse_append, List.reverse_singleton, List.singleton_append] at hts
      cases ts with
      | nil => cases hts
      | cons t ts =>
        have hdt : Dx K H y t := by cases hts; assumption
        have hdr : DxAll K H ys.reverse ts := by cases hts; assumption
        rw [show (!(ys ++ [y]).isEmpty) = true from by simp]
        rw [tameAll, Bool.and_eq_true] at htt
        refine iteT ⟨fun σ' H' => ∃ m', m' < n + 1 ∧ HeadIn K H v d L m' σ' H', fun _ _ h => h, ?_⟩
        refine ⟨_, rfl, .inl ⟨rfl, _, SqL.of hL2⟩, L, _, _, rfl, rfl, hL2, last_snoc _ _, _, rfl, _, _, rfl, rfl, _, _, rfl, ?_⟩
        rw [List.dropLast_concat]
        have e3 : Ex H (upd (upd H1 b (.lst [])) L (.lst ys)) := e2.mut hL0
        have hL3 : upd (upd H1 b (.lst [])) L (.lst ys) L = some (.lst ys) := upd_same
        generalize upd (upd H1 b (.lst [])) L (.lst ys) = H3 at e3 hL3
        refine ⟨_, rfl, _, _, rfl, rfl, _, rfl, ?_⟩
        cases n with
        | zero =>
          have hf : chk 24 [d] = false := by rw [hck]; rfl
          refine iteT (kf hf _ e3)
        | succ n =>
          rw [show decide ((24 : Int) < (24 - ((n + 1 : Nat) : Int)) + 1) = false from decide_eq_false (by push_cast; omega)]
          refine iteF ⟨_, rfl, _, _, _, _, _, rfl, .ty _, (Dx.ex e3 _ _ hdt).ty, kit_txt K t, _, rfl, ?_⟩
          have hc1 : stepD t = none → chk 24 [d] = false := fun h => by
            rw [hck, chk, h]
          have hc2 : ∀ cs, stepD t = some cs → chk 24 [d] = chk n (cs ++ ts) := fun cs h => by
            rw [hck, chk, h]
          have hnext : ∀ (σ' : L2.St) (H' : Hp) (xs' : List V) (ts' : List PyData) (o' : Option V), Ex H H' → H' L = some (.lst xs') → DxAll K H xs'.reverse ts' → chk 24 [d] = chk n ts' → tameAll ts' = true → xs'.length ≤ 100 - 2 * n →
              σ' = [some v, some (.ref L), some (.int ((24 - ((n + 1 : Nat) : Int)) + 1)), o'] → ∃ m', m' < n + 1 + 1 ∧ HeadIn K H v d L m' σ' H' := fun σ' H' xs' ts' o' g1 g2 g3 g4 g5 g6 g7 => by
            refine ⟨n + 1, by omega, xs', ts', n, o', g1, g2, g3, g4, by omega, g5, g6, rfl, ?_⟩
            rw [g7, show (24 - ((n + 1 : Nat) : Int)) + 1 = 24 - (n : Int) from by push_cast; omega]
          rw [List.length_append, List.length_singleton] at hxl
          cases hx : isTxt t with
          | true =>
            obtain ⟨x, rfl⟩ : ∃ x, t = .str x := by
              cases t <;> first | exact ⟨_, rfl⟩ | exact Bool.noConfusion (show false = true from hx)
            cases hdt
            have hx1 : x.length ≤ 1000 := of_decide_eq_true htt.1
            refine iteT (s_when (b := !inV (.str x) (ss bare) && !isName x) (et_and (et_test (ev_op (ev_var rfl) ev_c (rv_niT hBt.sq rfl (flat_ss _)))) (fun _ => et_not (et_B (ev_call (ea_cons (ev_var rfl) ea_nil) fun H4 e4 Q q E => ⟨x, rfl, hx1, q⟩)))) (fun hb H4 e4 => ?_) (fun hb H4 e4 => ?_))
            · refine s_ret ev_c fun H5 e5 => kf (hc1 ?_) _ ((e3.trans e4).trans e5)
              show (if (inV (.str x) (ss bare) || isName x) = true then some [] else none) = none
              rw [if_neg]
              intro z
              cases h1 : inV (.str x) (ss bare) <;> cases h2 : isName x <;> rw [h1, h2] at hb z <;> simp at hb z
            · refine hnext _ _ ys ts _ (e3.trans e4) (e4 _ _ hL3) hdr (hc2 [] ?_) htt.2 (by omega) rfl
              show (if (inV (.str x) (ss bare) || isName x) = true then some [] else none) = some []
              rw [if_pos]
              cases h1 : inV (.str x) (ss bare) <;> cases h2 : isName x <;> rw [h1, h2] at hb <;> simp at hb ⊢
          | false =>
            have hdt3 := Dx.ex e3 _ _ hdt
            refine iteF ?_
            have none_ : stepD t = none → ∀ H4, Ex H3 H4 → Q .non H4 := fun hs H4 e4 => kf (hc1 hs) _ (e3.trans e4)
            cases hr0 : isRow t with
            | false =>
              refine s_if (b := false) (et_and (a := false) (b := false) (et_B (by rw [← hr0]; exact ev_isRow (ev_var rfl) hdt3)) (fun z => nomatch z)) (fun z => nomatch z) (fun _ H4 e4 => none_ (step_odd hr0 hx) H4 e4)
            | true =>
              obtain ⟨ds, hds⟩ := items_row hr0
              obtain ⟨a, zs, rfl, hsq0, hzs0⟩ := row_at hdt hds
              have hsq := sq_ex e3 hsq0
              have hzs := DxAll.ex e3 _ _ hzs0
              have hlen := hzs.length
              by_cases h3 : ds.length = 3
              · obtain ⟨d0, d1, d2, rfl⟩ : ∃ d0 d1 d2, ds = [d0, d1, d2] := by
                  match ds, h3 with
                  | [d0, d1, d2], _ => exact ⟨d0, d1, d2, rfl⟩
                obtain ⟨z0, z1, z2, rfl⟩ : ∃ z0 z1 z2, zs = [z0, z1, z2] := by
                  match zs, hlen with
                  | [z0, z1, z2], _ => exact ⟨z0, z1, z2, rfl⟩
                have hz0 : Dx K H3 z0 d0 := by cases hzs; assumption
                have hst := step_row hds
                have htd := tame_items hds htt.1
                cases hw : isTxt d0 with
                | false =>
                  refine s_if (b := false) (et_and (a := true) (b := false) (et_B (by rw [← hr0]; exact ev_isRow (ev_var rfl) hdt3)) (fun _ => et_and (a := true) (b := false) (et_test (ev_op (ev_lenV (ev_var rfl) hsq) ev_c (rv_eq rfl))) (fun _ => et_and (a := false) (b := false) (et_B (by rw [← hw]; exact ev_isTxt (ev_op (ev_var rfl) ev_c (rv_ixQ (i := 0) hsq rfl)) hz0)) (fun z => nomatch z)))) (fun z => nomatch z) (fun _ H4 e4 => none_ (by rw [hst, stepRow_txt hw]) H4 e4)
                | true =>
                  obtain ⟨w1, rfl⟩ : ∃ x, d0 = .str x := by
                    cases d0 <;> first | exact ⟨_, rfl⟩ | exact Bool.noConfusion (show false = true from hw)
                  cases hz0
                  refine s_if (b := inV (.str w1) (ss joins)) (et_and (a := true) (et_B (by rw [← hr0]; exact ev_isRow (ev_var rfl) hdt3)) (fun _ => et_and (a := true) (et_test (ev_op (ev_lenV (ev_var rfl) hsq) ev_c (rv_eq rfl))) (fun _ => et_and (a := true) (et_B (ev_isTxt (t := .str w1) (ev_op (ev_var rfl) ev_c (rv_ixQ (i := 0) hsq rfl)) (.str w1))) (fun _ => et_test (ev_op (ev_op (ev_var rfl) ev_c (rv_ixQ (i := 0) hsq rfl)) ev_c (rv_isT hJt.sq rfl (flat_ss _))))))) (fun hb H4 e4 => ?_) (fun hb H4 e4 => none_ (by rw [hst]; show (if inV (.str w1) (ss joins) = true then _ else _) = _; rw [hb] <;> rfl) H4 e4)
                  have hsq4 := sq_ex e4 hsq
                  refine ⟨_, rfl, .inl ⟨rfl, _, SqL.of (e4 _ _ hL3)⟩, _, rfl, ix_sq (i := 2) hsq4 rfl ⟨_, rfl, ix_sq (i := 1) hsq4 rfl ⟨(by show 2 ≤ sizeLine; decide), fun p hp => ⟨L, p, ys, [z2, z1], rfl, rfl, Ex.new hp _ _ (e4 _ _ hL3), upd_same, Nat.le_of_lt (sz1000 (by simp; omega)), ?_⟩⟩⟩⟩
                  have hz12 : Dx K H z1 d1 ∧ Dx K H z2 d2 := by
                    cases hzs0 with
                    | cons _ h => cases h with
                      | cons h1 h => cases h with
                        | cons h2 _ => exact ⟨h1, h2⟩
                  refine hnext _ _ (ys ++ [z2, z1]) (d1 :: d2 :: ts) _ (((e3.trans e4).trans (Ex.new hp)).mut hL0) upd_same ?_ (hc2 [d1, d2] ?_) ?_ (by simp; omega) rfl
                  · rw [List.reverse_append]
                    exact .cons hz12.1 (.cons hz12.2 hdr)
                  · rw [hst]
                    show (if inV (.str w1) (ss joins) = true then _ else _) = _
                    rw [hb] <;> rfl
                  · have h12 := tameAll_mem htd
                    rw [tameAll, tameAll, h12 d1 (by simp), h12 d2 (by simp), htt.2] <;> rfl
              · refine s_if (b := false) (et_and (a := true) (b := false) (et_B (by rw [← hr0]; exact ev_isRow (ev_var rfl) hdt3)) (fun _ => et_and (a := false) (b := false) (et_test (ev_is (ev_op (ev_lenV (ev_var rfl) hsq) ev_c (rv_eq rfl)) ?_)) (fun z => nomatch z))) (fun z => nomatch z) (fun _ H4 e4 => none_ (by rw [step_row hds, stepRow_len h3]) H4 e4)
                rw [decide_eq_false]
                intro z
                injection z with z
                omega
end
end K2
set_option Elab.async false
set_option linter.all false
set_option maxRecDepth 100000
set_option maxHeartbeats 4000000
namespace K2
open PySem L2 Evl NdefX XcS
/-! ### PartError.__init__ -/
abbrev sPart : Stmt := inClass (top 20) 0
/-- what the written part says of an error class under PartError -/
structure ErC (K : PySem.W.Frag) (mg : Str → Option Value) (x : Str) (D C fI : Addr) : Prop where
  sup : SupC K D C
  noP : PySem.W.findIn K (.ref C) "part" = some none
  ini : PySem.W.findIn K (.ref C) "__init__" = some (some (.ref fI))
  tI : PySem.W.typeIn K (.ref fI) = some (.type "function")
  mgC : mg x = some (.ref C)
def spPart (K : PySem.W.Frag) (D : Addr) : Sp := fun vs H Q _ => ∃ a C y, vs = [.ref a, y] ∧ H a = some (exo a C none) ∧ SupC K D C ∧ PySem.W.findIn K (.ref C) "part" = some none ∧ ∀ dx, H dx = none → dx ≠ a → Q .non (upd (upd H dx (exd dx [("part", y)])) a (exo a C (some dx)))
def nPart : List Str := ["self", "part", "__class__"]
theorem scPart : NScope nPart ["self", "part"] ["__class__"] (defScope sPart) := nscope_by (by decide +kernel)
section
variable {P : Program} {w : World} {K : PySem.W.Frag} {mg : Str → Option Value} {base : Heap}
theorem ok_part {f cc cda D : Addr} {dV kV doc pm ct oc : Value} {an od : Option Addr} {osl : Array (Option Value)} (lk : K.lookup f = some ⟨oc, od, .func (PySem.W.ksFn "__init__" "PartError.__init__" (defArgs sPart) (defBody sPart) (defScope sPart) dV kV doc pm an (.ref cda) ct cc), osl⟩)
    (SK : SupK P K mg "PartError.__init__" cc cda D) : FnOk P w K mg base CX0 1 f (PySem.W.ksFn "__init__" "PartError.__init__" (defArgs sPart) (defBody sPart) (defScope sPart) dV kV doc pm an (.ref cda) ct cc) ["self", "part"] (spPart K D) := by
  refine fn_super (N := nPart) (ps := ["self", "part"]) (sp := spPart K D) (CX := CX0) (k := 0) lk SK scPart (fun vs H Q E h => ?_) rfl rfl (by decide) (by decide +kernel) (fun A outer s H vs Q E hr h => ?_)
  · obtain ⟨a, C, y, rfl, _⟩ := h
    rfl
  · obtain ⟨a, C, y, rfl, ha, hS, hno, k⟩ := h
    refine ⟨a, C, [y], _, _, rfl, ha, hS, pa_cons (pv 1) pa_nil, pss_one (ps_ost (pv 0) (pv 1)), ?_⟩
    refine ⟨y, rfl, (by show 1 ≤ 1000; decide), ha, ?_⟩
    exact ⟨y, rfl, .ref a, rfl, a, C, rfl, hS.ox, hno, .inl ⟨ha, fun dx hn hne => k dx hn hne⟩⟩
/-! ### need_statement -/
abbrev sNeed : Stmt := top 40
def spNeed (K : PySem.W.Frag) (C : Addr) : Sp := fun vs H Q E => ∃ v d p, vs = [v, .str p] ∧ Dx K H v d ∧ tame d = true ∧ nodes d ≤ 1000 ∧ (chk 24 [d] = true → ∀ u H', Ex H H' → Dx K H' u (fix d) → Q u H') ∧
  (chk 24 [d] = false → ∀ dx H', Ex H H' → H' dx = some (.xd [("part", .str p)]) → E (.ref C) (some dx) H')
def nNeed : List Str := ["value", "part", "found"]
theorem scNeed : FnScope nNeed ["value", "part"] (defScope sNeed) := ⟨rfl, rfl, rfl, by decide +kernel, rfl, by decide +kernel, by decide +kernel⟩
theorem fix_ne {K : PySem.W.Frag} {H : Hp} {u : V} {d : PyData} (h : chk 24 [d] = true) (hd : Dx K H u (fix d)) : u ≠ .non := by
  intro z
  subst z
  cases d with
  | none => cases h
  | bool _ => cases h
  | int _ => cases h
  | dict _ => cases h
  | str _ => cases hd
  | list _ => cases hd
  | tuple _ => cases hd
theorem ok_need {f C D fI : Addr} {fd fdI : FuncData} (F : FunD K "need_statement" "need_statement" (defArgs sNeed) (defBody sNeed) (defScope sNeed) [.str "statement"] [] f fd) (S : Cal P w K mg base CX0 3 "statement_in" ["value"] (spIn K)) (Ec : ErC K mg "BadStatement" D C fI)
    (I : FnOk P w K mg base CX0 1 fI fdI ["self", "part"] (spPart K D)) (bI : Binds K fdI ["self", "part"] []) : FnOk P w K mg base (L2.CX P w) 4 f fd ["value", "part"] (spNeed K C) := by
  obtain ⟨fs, fds, Fs, ms, ks, bs⟩ := S.ex
  refine F.ok scNeed (fun vs H Q E h => ?_) (fun cdv A outer s H vs Q E hr h => ?_)
  · obtain ⟨v, d, p, rfl, _⟩ := h
    rfl
  · obtain ⟨v, d, p, rfl, hd, ht, hn, kt, kf⟩ := h
    refine ⟨_, pss_cons (ps_set (i := 2) scNeed.nd rfl (Or.inl rfl) (pe_call Fs hr (by rfl) ms ks bs .nil pass0 (pa_cons (pv 0) pa_nil)))
      (pss_cons (ps_if (pt_cmp (pc_isN (pv 2))) (pss_one (ps_raise rfl (takes_of rfl rfl rfl rfl) (pmk_oex Ec.sup.ox Ec.ini Ec.tI I (hr.mono (by decide)) bI .nil pass0 (by rfl) Ec.mgC (pa_cons (pv 1) pa_nil)))) pss_nil)
        (pss_one (ps_ret (pv 2)))), ?_⟩
    refine ⟨v, rfl, v, d, rfl, hd, ht, hn, fun hc u H1 e1 hu => ?_, fun hc H1 e1 => ?_⟩
    · refine ⟨u, rfl, _, rfl, ?_⟩
      rw [decide_eq_false (fix_ne hc hu)]
      exact iteF ⟨u, rfl, kt hc u _ e1 hu⟩
    · refine ⟨.non, rfl, _, rfl, ?_⟩
      rw [show decide (V.non = V.non) = true from decide_eq_true rfl]
      refine iteT ⟨.str p, rfl, (by show 1 ≤ 1000; decide), fun a ha => ?_⟩
      refine ⟨a, C, .str p, rfl, upd_same, Ec.sup, Ec.noP, fun dx hdx hne => ⟨rfl, dx, [("part", .str p)], upd_same, ?_, ?_, ?_⟩⟩
      · rw [upd_ne hne, upd_same]
      · rw [upd_ne hne] at hdx
        exact hdx
      · rw [upd_ne hne] at hdx
        refine kf hc dx _ (e1.trans fun b o hb => ?_) upd_same
        have h1 := ne_of_none hb ha
        have h2 := ne_of_none hb hdx
        rw [upd_ne h2, del_ne h1, upd_ne h1, upd_ne h2, upd_ne h1]
        exact hb
end
end K2
set_option Elab.async false
set_option linter.all false
set_option maxRecDepth 100000
set_option maxHeartbeats 4000000
namespace K2
open PySem L2 Evl
/-! ### trees -/
inductive Tr where
  | leaf (x : Str)
  | node (w : Str) (a b : Tr)
def Tr.toD : Tr → PyData
  | .leaf x => .str x
  | .node w a b => .tuple [.str w, a.toD, b.toD]
def Tr.size : Tr → Nat
  | .leaf _ => 1
  | .node _ a b => 1 + a.size + b.size
def Tr.parts : Tr → List Tr
  | .leaf x => [.leaf x]
  | .node w a b => .node w a b :: (a.parts ++ b.parts)
def Tr.ok : Tr → Bool
  | .leaf x => inV (.str x) (ss bare) || isName x
  | .node w a b => inV (.str w) (ss joins) && (a.ok && b.ok)
def Tr.word : Tr → Str
  | .leaf x => x
  | .node w _ _ => w
theorem Tr.parts_len : ∀ t : Tr, t.parts.length = t.size
  | .leaf _ => rfl
  | .node w a b => by
    rw [Tr.parts, Tr.size, List.length_cons, List.length_append, a.parts_len, b.parts_len]
    omega
theorem Tr.size_pos (t : Tr) : 1 ≤ t.size := by
  cases t with
  | leaf _ => exact Nat.le_refl _
  | node w a b =>
    rw [Tr.size]
    omega
inductive IsT : PyData → Tr → Prop
  | leaf (x : Str) : IsT (.str x) (.leaf x)
  | lst {w : Str} {a b : PyData} {ta tb : Tr} : IsT a ta → IsT b tb → IsT (.list [.str w, a, b]) (.node w ta tb)
  | tup {w : Str} {a b : PyData} {ta tb : Tr} : IsT a ta → IsT b tb → IsT (.tuple [.str w, a, b]) (.node w ta tb)
theorem IsT.fix : ∀ {d : PyData} {t : Tr}, IsT d t → K2.fix d = t.toD
  | _, _, .leaf x => rfl
  | _, _, .lst ha hb => by
    show PyData.tuple [.str _, K2.fix _, K2.fix _] = _
    rw [ha.fix, hb.fix] <;> rfl
  | _, _, .tup ha hb => by
    show PyData.tuple [.str _, K2.fix _, K2.fix _] = _
    rw [ha.fix, hb.fix] <;> rfl
theorem Tr.isT : ∀ t : Tr, IsT t.toD t
  | .leaf x => .leaf x
  | .node w a b => .tup a.isT b.isT
/-- sizes together -/
def sizes : List Tr → Nat
  | [] => 0
  | t :: ts => t.size + sizes ts
inductive AllT : List PyData → List Tr → Prop
  | nil : AllT [] []
  | cons {d : PyData} {t : Tr} {ds : List PyData} {ts : List Tr} : IsT d t → AllT ds ts → AllT (d :: ds) (t :: ts)
theorem stepRow_some {ds cs : List PyData} (h : stepRow ds = some cs) : ∃ w a b, ds = [.str w, a, b] ∧ inV (.str w) (ss joins) = true ∧ cs = [a, b] := by
  unfold stepRow at h
  split at h
  · split at h
    · rename_i hw
      cases h
      exact ⟨_, _, _, rfl, hw, rfl⟩
    · cases h
  · cases h
/-- what is let is a tree, small enough -/
theorem chk_tree : ∀ (n : Nat) (ds : List PyData), chk n ds = true → ∃ ts, AllT ds ts ∧ ts.all Tr.ok = true ∧ sizes ts ≤ n
  | n, [], _ => ⟨[], .nil, rfl, Nat.zero_le _⟩
  | 0, d :: ds, h => by
    rw [chk] at h
    cases h
  | n + 1, d :: ds, h => by
    rw [chk] at h
    cases hs : stepD d with
    | none => rw [hs] at h; cases h
    | some cs =>
      rw [hs] at h
      obtain ⟨ts, h1, h2, h3⟩ := chk_tree n (cs ++ ds) h
      have two : ∀ (w : Str) (a b : PyData), inV (.str w) (ss joins) = true → cs = [a, b] → (∀ ta tb, IsT a ta → IsT b tb → IsT d (.node w ta tb)) → ∃ ts, AllT (d :: ds) ts ∧ ts.all Tr.ok = true ∧ sizes ts ≤ n + 1 := fun w a b hw hc hi => by
        subst hc
        match ts, h1, h2, h3 with
        | ta :: tb :: ts, .cons ha (.cons hb h1), h2, h3 =>
            rw [List.all_cons, List.all_cons, Bool.and_eq_true, Bool.and_eq_true] at h2
            refine ⟨.node w ta tb :: ts, .cons (hi ta tb ha hb) h1, ?_, ?_⟩
            · rw [List.all_cons, Tr.ok, hw, h2.1, h2.2.1, h2.2.2] <;> rfl
            · rw [sizes, sizes] at h3
              rw [sizes, Tr.size]
              omega
      cases d with
      | str x =>
        have hs' : (if (inV (.str x) (ss bare) || isName x) = true then some [] else none) = some cs := hs
        split at hs'
        · rename_i hx
          cases hs'
          refine ⟨.leaf x :: ts, .cons (.leaf x) h1, ?_, ?_⟩
          · rw [List.all_cons, Tr.ok, hx, h2] <;> rfl
          · rw [sizes, Tr.size]
            omega
        · cases hs'
      | list es =>
        obtain ⟨w, a, b, rfl, hw, hc⟩ := stepRow_some (show stepRow es = some cs from hs)
        exact two w a b hw hc fun ta tb ha hb => .lst ha hb
      | tuple es =>
        obtain ⟨w, a, b, rfl, hw, hc⟩ := stepRow_some (show stepRow es = some cs from hs)
        exact two w a b hw hc fun ta tb ha hb => .tup ha hb
      | _ => cases hs
theorem tree_chk : ∀ (n : Nat) (ds : List PyData) (ts : List Tr), AllT ds ts → ts.all Tr.ok = true → sizes ts ≤ n → chk n ds = true
  | n, _, _, .nil, _, _ => by cases n <;> rfl
  | 0, _, _, .cons (t := t) h1 h2, _, h4 => by
    rw [sizes] at h4
    have := t.size_pos
    omega
  | n + 1, _, _, .cons (d := d) (t := t) (ds := ds) (ts := ts) h1 h2, h3, h4 => by
    rw [List.all_cons, Bool.and_eq_true] at h3
    rw [sizes] at h4
    have two : ∀ (w : Str) (a b : PyData) (ta tb : Tr), stepD d = stepRow [.str w, a, b] → IsT a ta → IsT b tb → (Tr.node w ta tb).ok = true → (Tr.node w ta tb).size + sizes ts ≤ n + 1 → chk (n + 1) (d :: ds) = true := fun w a b ta tb hs ha hb ho hz => by
      rw [Tr.ok, Bool.and_eq_true, Bool.and_eq_true] at ho
      rw [Tr.size] at hz
      have e : stepD d = some [a, b] := by
        rw [hs]
        show (if inV (.str w) (ss joins) = true then some [a, b] else none) = _
        rw [if_pos ho.1]
      rw [chk, e]
      exact tree_chk n (a :: b :: ds) (ta :: tb :: ts) (.cons ha (.cons hb h2)) (by rw [List.all_cons, List.all_cons, ho.2.1, ho.2.2, h3.2] <;> rfl) (by rw [sizes, sizes]; omega)
    cases h1 with
    | leaf x =>
      have e : stepD (.str x) = some [] := by
        show (if (inV (.str x) (ss bare) || isName x) = true then some [] else none) = _
        rw [if_pos (show (inV (.str x) (ss bare) || isName x) = true from h3.1)]
      rw [chk, e]
      rw [Tr.size] at h4
      exact tree_chk n ds ts h2 h3.2 (by omega)
    | lst ha hb => exact two _ _ _ _ _ rfl ha hb h3.1 h4
    | tup ha hb => exact two _ _ _ _ _ rfl ha hb h3.1 h4
theorem chk1_tree {d : PyData} (h : chk 24 [d] = true) : ∃ t, IsT d t ∧ t.ok = true ∧ t.size ≤ 24 := by
  obtain ⟨ts, h1, h2, h3⟩ := chk_tree 24 [d] h
  cases h1 with
  | cons ha h1 =>
    cases h1
    rename_i t
    rw [List.all_cons, Bool.and_eq_true] at h2
    rw [sizes, sizes] at h3
    exact ⟨t, ha, h2.1, h3⟩
theorem tree_chk1 {d : PyData} {t : Tr} (h : IsT d t) (ho : t.ok = true) : chk 24 [d] = decide (t.size ≤ 24) := by
  by_cases hz : t.size ≤ 24
  · rw [decide_eq_true hz]
    exact tree_chk 24 [d] [t] (.cons h .nil) (by rw [List.all_cons, ho] <;> rfl) (by rw [sizes, sizes]; exact hz)
  · rw [decide_eq_false hz]
    cases hc : chk 24 [d] with
    | false => rfl
    | true =>
      exfalso
      obtain ⟨t', h1, _, h3⟩ := chk1_tree hc
      have key : ∀ {d : PyData} {t t' : Tr}, IsT d t → IsT d t' → t = t' := by
        intro d t t' h
        induction h generalizing t' with
        | leaf x => intro h'; cases h'; rfl
        | lst _ _ ia ib => intro h'; cases h' with
          | lst ha hb => rw [ia ha, ib hb]
        | tup _ _ ia ib => intro h'; cases h' with
          | tup ha hb => rw [ia ha, ib hb]
      rw [key h h1] at hz
      exact hz h3
theorem size_nodes : ∀ {d : PyData} {t : Tr}, IsT d t → nodes d ≤ 2 * t.size
  | _, _, .leaf x => by show 1 ≤ 2 * 1; decide
  | _, _, .lst ha hb => by
    have h1 := size_nodes ha
    have h2 := size_nodes hb
    simp only [nodes, nodesAll, Tr.size]
    omega
  | _, _, .tup ha hb => by
    have h1 := size_nodes ha
    have h2 := size_nodes hb
    simp only [nodes, nodesAll, Tr.size]
    omega
end K2
set_option Elab.async false
set_option linter.all false
set_option maxRecDepth 100000
set_option maxHeartbeats 4000000
namespace K2
open PySem L2 Evl
/-- a def of one parameter that may be called by its name, the argument told by place or by name -/
structure Cal1 (P : Program) (w : World) (K : PySem.W.Frag) (mg : Str → Option Value) (base : Heap) (CX : CXT) (k : Nat) (x pn : Str) (sp : Sp) : Prop where
  ex : ∃ (f : Addr) (fd : FuncData), FnOk P w K mg base CX k f fd [pn] sp ∧ mg x = some (.ref f) ∧ PySem.W.keepIn K (.ref f) = true ∧ Binds K fd [pn] [] ∧ KBinds K fd [pn] [pn] (fun us ws => us ++ ws) (fun vs zs => vs ++ zs)
section
variable {X : Cx} {CX : CXT} {k : Nat} {f : Addr} {fd : FuncData} {ps ks : List Str} {sp : Sp} {E : XK} {x : Str} {p pos : Pos} {kws : List Keyword} {tk : TA}
theorem pe_kw0 (F : FnOk X.prog X.w X.K X.mg X.base CX k f fd ps sp) (hr : Room k X.A) (hg : Gl X x) (hm : X.mg x = some (.ref f)) (hk : PySem.W.keepIn X.K (.ref f) = true) (hb : KBinds X.K fd ps ks (fun us ws => us ++ ws) (fun vs zs => vs ++ zs)) (hx : Passes CX X E) (hkw : PK X kws tk)
    (hall : (backToKw pos (keywordEach kws X.env)).all (·.1.isSome) = true := by rfl) (hks : (backToKw pos (keywordEach kws X.env)).filterMap (·.1) = ks := by rfl) (hdb : (x == ("__debug__" : Str)) = false := by decide)
    (hpl : ((backTo pos (starEach [] X.env)).any (·.1) || (backToKw pos (keywordEach kws X.env)).any (·.1.isNone)) = false := by rfl) :
    PE X (.Call (.Name x p) [] kws pos) (tCall sp [] E tk) := by
  refine ⟨fun pins s σ H Q I h => ?_⟩
  refine wpAny_Call_Name_kw (ld_glob I hg hm ?_ hdb)
  refine PySem.W.callWith_KW0 (h₀ := X.base) I.ok.mod.kin hk hall ?_ hpl
  refine thn (hkw.run pos pins s σ H _ I h) fun ws s2 ⟨zs, H2, I2, rz, q2⟩ => ⟨I2.kIn, ?_⟩
  rw [hks]
  have q3 : sp (zs ++ []) H2 Q E := q2
  rw [List.append_nil] at q3
  have q2 := q3
  exact run_fnk (us := []) (vs := []) (gV := fun vs zs => vs ++ zs) (g := fun us ws => us ++ ws) F hr hb hx I2 .nil rz q2
end
/-! ### is_statement -/
abbrev sIs : Stmt := top 39
def spIs (K : PySem.W.Frag) : Sp := fun vs H Q _ => ∃ v d, vs = [v] ∧ Dx K H v d ∧ tame d = true ∧ nodes d ≤ 1000 ∧ ∀ H', Ex H H' → Q (.bl (chk 24 [d])) H'
theorem scIs : FnScope ["value"] ["value"] (defScope sIs) := ⟨rfl, rfl, rfl, by decide +kernel, rfl, by decide +kernel, by decide +kernel⟩
/-! ### parts_in -/
abbrev sPs : Stmt := top 41
def spPs (K : PySem.W.Frag) : Sp := fun vs H Q _ => ∃ (v : V) (t : Tr), vs = [v] ∧ Dx K H v t.toD ∧ t.size ≤ 100 ∧ ∀ u H', Ex H H' → Dx K H' u (.tuple (t.parts.map Tr.toD)) → Q u H'
def nPs : List Str := ["statement", "found", "line", "one"]
theorem scPs : FnScope nPs ["statement"] (defScope sPs) := ⟨rfl, rfl, rfl, by decide +kernel, rfl, by decide +kernel, by decide +kernel⟩
def partsAll : List Tr → List Tr
  | [] => []
  | t :: ts => t.parts ++ partsAll ts
theorem partsAll_len : ∀ ts, (partsAll ts).length = sizes ts
  | [] => rfl
  | t :: ts => by rw [partsAll, sizes, List.length_append, t.parts_len, partsAll_len ts]
def HeadPs (K : PySem.W.Frag) (H : Hp) (v : V) (t : Tr) (Fd L : Addr) (m : Nat) (σ : L2.St) (H1 : Hp) : Prop :=
  ∃ (fs xs : List V) (dn ts : List Tr) (o : Option V), Ex H H1 ∧ H1 Fd = some (.lst fs) ∧ H1 L = some (.lst xs) ∧ DxAll K H fs (dn.map Tr.toD) ∧ DxAll K H xs.reverse (ts.map Tr.toD) ∧ dn ++ partsAll ts = t.parts ∧ m = sizes ts ∧ σ = [some v, some (.ref Fd), some (.ref L), o]
section
variable {P : Program} {w : World} {K : PySem.W.Frag} {mg : Str → Option Value} {base : Heap}
theorem ok_is {f : Addr} {fd : FuncData} (F : Fun K "is_statement" "is_statement" sIs f fd) (S : Cal P w K mg base CX0 3 "statement_in" ["value"] (spIn K)) : FnOk P w K mg base CX0 4 f fd ["value"] (spIs K) := by
  obtain ⟨fs, fds, Fs, ms, ks, bs⟩ := S.ex
  refine F.ok scIs (fun vs H Q E h => ?_) (fun cdv A outer s H vs Q E hr h => ?_)
  · obtain ⟨v, d, rfl, _⟩ := h
    rfl
  · obtain ⟨v, d, rfl, hd, ht, hn, k⟩ := h
    refine ⟨_, pss_one (ps_ret (pe_cmp (pc_notN (pe_call Fs hr (by rfl) ms ks bs .nil pass0 (pa_cons (pv 0) pa_nil))))), ?_⟩
    refine ⟨v, rfl, v, d, rfl, hd, ht, hn, fun hc u H1 e1 hu => ?_, fun hc H1 e1 => ?_⟩
    · show Q (.bl (!decide (u = .non))) H1
      rw [decide_eq_false (fix_ne hc hu), Bool.not_false, ← hc]
      exact k _ e1
    · show Q (.bl (!decide (V.non = .non))) H1
      rw [decide_eq_true rfl, Bool.not_true, ← hc]
      exact k _ e1
theorem ok_ps {f : Addr} {fd : FuncData} (F : Fun K "parts_in" "parts_in" sPs f fd) (B : Bl mg) : FnOk P w K mg base CX0 1 f fd ["statement"] (spPs K) := by
  refine F.ok scPs (fun vs H Q E h => ?_) (fun cdv A outer s H vs Q E hr h => ?_)
  · obtain ⟨v, d, rfl, _⟩ := h
    rfl
  · obtain ⟨v, t, rfl, hd, hz, k⟩ := h
    have hu : (cxOf CX0 P w K mg base nPs "parts_in" (defScope sPs) f cdv A outer s H E).nox.A.units < cLine := Nat.lt_of_le_of_lt (Nat.le_succ _) (hu_of hr)
    refine ⟨_, pss_cons (ps_par (i := 1) (j := 2) rfl scPs.nd rfl rfl (by decide) rfl rfl (pa_cons (pe_lst pa_nil) (pa_cons (pe_lst (pa_cons (pv 0) pa_nil)) pa_nil)) (by rfl))
      (pss_cons (ps_while PassesOwn.never (pt_cmpR (op_neE hu) (pv 2) (pe_lst pa_nil) (nomark _))
        (pss_cons (ps_set (i := 3) scPs.nd rfl (Or.inl rfl) (pe_bm0 PySem.F.plainAttrs_list PySem.F.slot_list_pop PySem.F.type_list_pop mt_pop (pv 2)))
          (pss_cons (ps_expr (pe_bm PySem.F.plainAttrs_list PySem.F.slot_list_append PySem.F.type_list_append mt_append (pv 1) (pa_cons (pv 3) pa_nil)))
            (pss_one (ps_if (pt_not (pt_val (pe_callB call_isi (by rfl) B.isi (by decide +kernel) (pa_cons (pv 3) (pa_cons (pe_bltn (v := .ty "str") (by rfl) B.str (by decide +kernel) rfl) pa_nil)))))
              (pss_one (ps_expr (pe_bm PySem.F.plainAttrs_list PySem.F.slot_list_extend PySem.F.type_list_extend mt_extend (pv 2) (pa_cons (pe_lst (pa_cons (pe_ix ix_seq (pv 3) pe_int (fun _ _ => rfl)) (pa_cons (pe_ix ix_seq (pv 3) pe_int (fun _ _ => rfl)) pa_nil))) pa_nil)))) pss_nil)))))
        (pss_one (ps_ret (pe_tupleOf (by rfl) B.tuple (pv 1))))), ?_⟩
    refine ⟨Nat.zero_le _, fun Fd hF => ⟨v, rfl, (by show 1 ≤ sizeLine; decide), fun L hL => ⟨_, _, rfl, ?_⟩⟩⟩
    have hL0 : H L = none := fresh_back (Ex.new hF) hL
    have nFL : Fd ≠ L := fun z => by rw [← z, upd_same] at hL; cases hL
    refine ⟨HeadPs K H v t Fd L, ⟨sizes [t], [], [v], [], [t], none, (Ex.new hF).trans (Ex.new hL), Ex.new hL _ _ upd_same, upd_same, .nil, .cons hd .nil, by rw [partsAll, partsAll, List.append_nil] <;> rfl, rfl, rfl⟩, ?_⟩
    rintro m σ H1 ⟨fs, xs, dn, ts, o, e1, hF1, hL1, hfs, hts, hp, rfl, rfl⟩
    refine ⟨_, rfl, Nat.zero_le _, fun b hb => ⟨L, b, _, rfl, rfl, SqL.of (Ex.new hb _ _ hL1), SqL.of upd_same, _, rfl, ?_⟩⟩
    have e2 : Ex H (upd H1 b (.lst [])) := e1.trans (Ex.new hb)
    have hL2 := Ex.new (o := .lst []) hb _ _ hL1
    have hF2 := Ex.new (o := .lst []) hb _ _ hF1
    have hplen : dn.length + sizes ts ≤ 100 := by
      have q := congrArg List.length hp
      rw [List.length_append, partsAll_len, t.parts_len] at q
      omega
    have hfl : fs.length = dn.length := by rw [hfs.length, List.length_map]
    rcases List.eq_nil_or_concat xs with e | ⟨ys, y, e⟩
    · subst e
      cases ts with
      | cons _ _ => cases hts
      | nil =>
        rw [partsAll, List.append_nil] at hp
        subst hp
        refine iteF ⟨_, rfl, .inl ⟨Fd, _, rfl, SqL.of hF2, fun u hu2 => k _ _ (e2.trans (Ex.new hu2)) (.tup (st_of upd_same) (DxAll.ex (e2.trans (Ex.new hu2)) _ _ hfs))⟩⟩
    · rw [List.concat_eq_append] at e
      subst e
      rw [List.reverse_append, List.reverse_singleton, List.singleton_append] at hts
      cases ts with
      | nil => cases hts
      | cons t1 ts =>
        have hdt : Dx K H y t1.toD := by cases hts; assumption
        have hdr : DxAll K H ys.reverse (ts.map Tr.toD) := by cases hts; assumption
        rw [sizes] at hplen
        have hsp := t1.size_pos
        have hxl : ys.length ≤ 100 := by
          have q := hdr.length
          rw [List.length_reverse, List.length_map] at q
          have key : ∀ l : List Tr, l.length ≤ sizes l := by
            intro l
            induction l with
            | nil => exact Nat.zero_le _
            | cons a l ih =>
              have := a.size_pos
              rw [List.length_cons, sizes]
              omega
          have := key ts
          omega
        rw [show (!(ys ++ [y]).isEmpty) = true from by simp]
        refine iteT ⟨fun σ' H' => ∃ m', m' < sizes (t1 :: ts) ∧ HeadPs K H v t Fd L m' σ' H', fun _ _ h => h, ?_⟩
        refine ⟨_, rfl, .inl ⟨rfl, _, SqL.of hL2⟩, L, _, _, rfl, rfl, hL2, last_snoc _ _, ?_⟩
        rw [List.dropLast_concat]
        have hF3 : upd (upd H1 b (.lst [])) L (.lst ys) Fd = some (.lst fs) := by rw [upd_ne nFL]; exact hF2
        refine ⟨_, rfl, .inl ⟨rfl, _, SqL.of hF3⟩, _, rfl, Fd, _, _, rfl, rfl, hF3, sz1000 (by omega), ?_⟩
        have hF0 : H Fd = none := hF
        have e4 : Ex H (upd (upd (upd H1 b (.lst [])) L (.lst ys)) Fd (.lst (fs ++ [y]))) := (e2.mut hL0).mut hF0
        have hL4 : upd (upd (upd H1 b (.lst [])) L (.lst ys)) Fd (.lst (fs ++ [y])) L = some (.lst ys) := by rw [upd_ne (Ne.symm nFL), upd_same]
        have hF4 : upd (upd (upd H1 b (.lst [])) L (.lst ys)) Fd (.lst (fs ++ [y])) Fd = some (.lst (fs ++ [y])) := upd_same
        generalize upd (upd (upd H1 b (.lst [])) L (.lst ys)) Fd (.lst (fs ++ [y])) = H4 at e4 hL4 hF4
        have hfs4 : DxAll K H (fs ++ [y]) ((dn ++ [t1]).map Tr.toD) := by
          rw [List.map_append]
          exact hfs.append (.cons hdt .nil)
        refine ⟨_, rfl, _, _, _, _, _, rfl, .ty _, (Dx.ex e4 _ _ hdt).ty, kit_txt K _, _, rfl, ?_⟩
        cases t1 with
        | leaf x =>
          refine iteF ⟨sizes ts, by rw [sizes]; omega, fs ++ [y], ys, dn ++ [.leaf x], ts, _, e4, hF4, hL4, hfs4, hdr, ?_, rfl, rfl⟩
          rw [← hp, partsAll, List.append_assoc] <;> rfl
        | node w1 ta tb =>
          obtain ⟨a, zs, rfl, hsq, hzs⟩ := row_at hdt (show items (Tr.toD (.node w1 ta tb)) = some [.str w1, ta.toD, tb.toD] from rfl)
          obtain ⟨z0, z1, z2, rfl⟩ : ∃ z0 z1 z2, zs = [z0, z1, z2] := by
            match zs, hzs.length with
            | [z0, z1, z2], _ => exact ⟨z0, z1, z2, rfl⟩
          have hz12 : Dx K H z1 ta.toD ∧ Dx K H z2 tb.toD := by
            cases hzs with
            | cons _ h => cases h with
              | cons h1 h => cases h with
                | cons h2 _ => exact ⟨h1, h2⟩
          have hsq4 := sq_ex e4 hsq
          refine iteT ⟨_, rfl, .inl ⟨rfl, _, SqL.of hL4⟩, _, rfl, ix_sq (i := 2) hsq4 rfl ⟨_, rfl, ix_sq (i := 1) hsq4 rfl ⟨(by show 2 ≤ sizeLine; decide), fun p hp2 => ⟨L, p, ys, [z2, z1], rfl, rfl, Ex.new hp2 _ _ hL4, upd_same, Nat.le_of_lt (sz1000 (by simp; omega)), ?_⟩⟩⟩⟩
          have nFp : Fd ≠ p := ne_of_none hF4 hp2
          refine ⟨sizes (ta :: tb :: ts), by simp only [sizes, Tr.size]; omega, fs ++ [.ref a], ys ++ [z2, z1], dn ++ [.node w1 ta tb], ta :: tb :: ts, _, ((e4.trans (Ex.new hp2)).mut hL0), by rw [upd_ne nFL]; exact Ex.new hp2 _ _ hF4, upd_same, hfs4, ?_, ?_, rfl, rfl⟩
          · rw [List.reverse_append]
            exact .cons hz12.1 (.cons hz12.2 hdr)
          · rw [← hp]
            simp only [partsAll, Tr.parts, List.append_assoc, List.cons_append, List.nil_append]
end
end K2
set_option Elab.async false
set_option linter.all false
set_option maxRecDepth 100000
set_option maxHeartbeats 4000000
namespace K2
open PySem L2 Evl
section
variable {K : PySem.W.Frag} {σ : L2.St} {H : Hp} {te tl : TE} {t : TT} {vs : List Nat} {j : Nat}
/-- [e for y in parts if t]: parts a list | a tuple of trees -/
theorem el_lcTr {a : Addr} {xs : List V} {ts : List Tr} (p : Tr → Bool) (g : Tr → V) (h : Ev tl σ H (.ref a)) (hx : SqL K H a xs) (hd : DxAll K H xs (ts.map Tr.toD)) (hz : xs.length ≤ 40000) (hw : ∀ x, wipe ((wipe σ vs).set j (some x)) vs = wipe σ vs)
    (ht : ∀ (t1 : Tr) (x : V) H1, Ex H H1 → t1 ∈ ts → Dx K H1 x t1.toD → EvT t ((wipe σ vs).set j (some x)) H1 (p t1)) (he : ∀ (t1 : Tr) (x : V) H1, Ex H H1 → t1 ∈ ts → Dx K H1 x t1.toD → p t1 = true → Ev te ((wipe σ vs).set j (some x)) H1 (g t1)) :
    EvL (tLc (iList K tl) (gName j) t te vs) σ H ((ts.filter p).map g) := by
  obtain ⟨f, hf⟩ : ∃ f : Nat → Bool, ∀ i c, ts[i]? = some c → f i = p c := ⟨fun i => match ts[i]? with | some c => p c | none => false, fun i c e => by simp only [e]⟩
  obtain ⟨v, hv⟩ : ∃ v : Nat → V, ∀ i c, ts[i]? = some c → v i = g c := ⟨fun i => match ts[i]? with | some c => g c | none => .non, fun i c e => by simp only [e]⟩
  have hl : xs.length = ts.length := by rw [hd.length, List.length_map]
  have at_ : ∀ i x, xs[i]? = some x → ∃ t1 : Tr, ts[i]? = some t1 ∧ Dx K H x t1.toD := fun i x hi => by
    obtain ⟨d, h1, h2⟩ := hd.getV hi
    rw [List.getElem?_map] at h1
    cases e : ts[i]? with
    | none => rw [e] at h1; cases h1
    | some t1 =>
      rw [e] at h1
      cases h1
      exact ⟨t1, e, h2⟩
  rw [← given_list ts p g hf hv, ← hl]
  refine el_lcL f v h hx hz hw (fun i x H1 e hi => ?_) fun i x H1 e hi hp => ?_
  · obtain ⟨t1, h1, h2⟩ := at_ i x hi
    exact et_is (ht t1 x H1 e (List.mem_of_getElem? h1) (Dx.ex e _ _ h2)) (hf i t1 h1).symm
  · obtain ⟨t1, h1, h2⟩ := at_ i x hi
    rw [hv i t1 h1]
    exact he t1 x H1 e (List.mem_of_getElem? h1) (Dx.ex e _ _ h2) (by rw [← hf i t1 h1]; exact hp)
/-- evaluates to something that is the data d -/
def EvD (K : PySem.W.Frag) (te : TE) (σ : L2.St) (H : Hp) (d : PyData) : Prop := ∀ H1, Ex H H1 → ∀ Q : VK, (∀ u H2, Ex H1 H2 → Dx K H2 u d → Q u H2) → te σ H1 Q
theorem el_lcTd {ts : List Tr} (p : Tr → Bool) (g : Tr → V) (h : EvD K tl σ H (.tuple (ts.map Tr.toD))) (hz : ts.length ≤ 40000) (hw : ∀ x, wipe ((wipe σ vs).set j (some x)) vs = wipe σ vs)
    (ht : ∀ (t1 : Tr) (x : V) H1, Ex H H1 → t1 ∈ ts → Dx K H1 x t1.toD → EvT t ((wipe σ vs).set j (some x)) H1 (p t1)) (he : ∀ (t1 : Tr) (x : V) H1, Ex H H1 → t1 ∈ ts → Dx K H1 x t1.toD → p t1 = true → Ev te ((wipe σ vs).set j (some x)) H1 (g t1)) :
    EvL (tLc (iTup K tl) (gName j) t te vs) σ H ((ts.filter p).map g) := fun H0 e Q q => h H0 e _ fun u H1 e1 hu => by
  cases hu with
  | tup hx hd =>
    rename_i a xs
    obtain ⟨f, hf⟩ : ∃ f : Nat → Bool, ∀ i c, ts[i]? = some c → f i = p c := ⟨fun i => match ts[i]? with | some c => p c | none => false, fun i c e => by simp only [e]⟩
    obtain ⟨v, hv⟩ : ∃ v : Nat → V, ∀ i c, ts[i]? = some c → v i = g c := ⟨fun i => match ts[i]? with | some c => g c | none => .non, fun i c e => by simp only [e]⟩
    have hl : xs.length = ts.length := by rw [hd.length, List.length_map]
    have at_ : ∀ i x, xs[i]? = some x → ∃ t1 : Tr, ts[i]? = some t1 ∧ Dx K H1 x t1.toD := fun i x hi => by
      obtain ⟨d, h1, h2⟩ := hd.getV hi
      rw [List.getElem?_map] at h1
      cases e : ts[i]? with
      | none => rw [e] at h1; cases h1
      | some t1 =>
        rw [e] at h1
        cases h1
        exact ⟨t1, e, h2⟩
    have eg := given_list ts p g hf hv
    refine ⟨a, rfl, ⟨xs, hx⟩, fun Dl hD => ?_⟩
    refine lc_tup (xs := xs) (Cw H1 f v Dl) ⟨hD, Ex.new hD, upd_same⟩ (fun i H' _ pp => ex_t pp.2.1 hx) (fun i x H' hi pp => ⟨hw _, ?_⟩) (fun H' pp => ?_)
    · obtain ⟨t1, h1, h2⟩ := at_ i x hi
      have hlt := (List.getElem?_eq_some_iff.mp hi).1
      refine cw_turn pp (by omega) (et_is (ht t1 x H1 (e.trans e1) (List.mem_of_getElem? h1) h2) (hf i t1 h1).symm) fun hp => ?_
      rw [hv i t1 h1]
      exact he t1 x H1 (e.trans e1) (List.mem_of_getElem? h1) h2 (by rw [← hf i t1 h1]; exact hp)
    · have e3 := pp.2.2
      rw [hl, eg] at e3
      exact q Dl H' (fresh_back e1 pp.1) (e1.trans pp.2.1) e3
end
/-- the words that stand at the parts -/
def Tr.short (t : Tr) : Prop := ∀ p ∈ t.parts, p.word.length ≤ 1000
/-- the text of the statement -/
def Tr.text (t : Tr) : Str := Txt.join " " (t.parts.map Tr.word)
abbrev sTx : Stmt := top 44
def spTx (K : PySem.W.Frag) : Sp := fun vs H Q _ => ∃ (v : V) (t : Tr), vs = [v] ∧ Dx K H v t.toD ∧ t.size ≤ 100 ∧ t.short ∧ ∀ H', Ex H H' → Q (.str t.text) H'
def nTx : List Str := ["statement", "part"]
theorem scTx : FnScope nTx ["statement"] (defScope sTx) := ⟨rfl, rfl, rfl, by decide +kernel, rfl, by decide +kernel, by decide +kernel⟩
theorem bIsi : bootBuiltins "isinstance" = some (.builtin "isinstance") := by decide +kernel
theorem bLen : bootBuiltins "len" = some (.builtin "len") := by decide +kernel
theorem bStr : bootBuiltins "str" = some (.type "str") := by decide +kernel
/-- the reading of: part if isinstance(part, str) else part[0] -/
abbrev tWord (K : PySem.W.Frag) (i : Nat) : TE := tIf (tB (tCB (rIsi K) (tCons (tVar i) (tCons (tC (.ty "str")) tNil)))) (tVar i) (tOp (rIx K) (tVar i) (tC (.int 0)))
theorem pe_word {X : Cx} {x : Str} {i : Nat} {p1 p2 p3 p4 p5 p6 p7 p8 p9 : Pos} {j0 : Nat} (hN : X.N[i]? = some x) (hv : Vis X.env.scope x) (hd : (x == ("__debug__" : Str)) = false) (hcd : (x == ("__classdict__" : Str)) = false)
    (g1 : Gl X "isinstance") (m1 : X.mg "isinstance" = none) (g2 : Gl X "str") (m2 : X.mg "str" = none) :
    PE X (.IfExp (.Call (.Name "isinstance" p1) [.Name x p2, .Name "str" p3] [] p4) (.Name x p5) (.Subscript (.Name x p6) (.Constant (.int 0) j0 p7) p8) p9) (tWord X.K i) :=
  pe_ifExp (pt_val (pe_callB call_isi g1 m1 bIsi (pa_cons (pe_var hN hv hd hcd) (pa_cons (pe_bltn (v := .ty "str") g2 m2 bStr rfl) pa_nil)))) (pe_var hN hv hd hcd) (pe_ix ix_seq (pe_var hN hv hd hcd) pe_int (fun _ _ => rfl))
theorem isTxt_leaf (x : Str) : isTxt (Tr.toD (.leaf x)) = true := rfl
theorem isTxt_node (w : Str) (a b : Tr) : isTxt (Tr.toD (.node w a b)) = false := rfl
/-- part if isinstance(part, str) else part[0] -/
theorem ev_word {K : PySem.W.Frag} {σ : L2.St} {H : Hp} {ta tb : TE} {x : V} {t : Tr} (ha : Ev ta σ H x) (hb : Ev tb σ H x) (hd : Dx K H x t.toD) : Ev (tIf (tB (tCB (rIsi K) (tCons ta (tCons (tC (.ty "str")) tNil)))) ta (tOp (rIx K) tb (tC (.int 0)))) σ H (.str t.word) := by
  refine ev_if (b := isTxt t.toD) (et_B (ev_isTxt ha hd)) (fun hb1 => ?_) (fun hb1 => ?_)
  · cases t with
    | leaf y => cases hd; exact ha
    | node w a b => cases hb1
  · cases t with
    | leaf y => cases hb1
    | node w a b =>
      obtain ⟨p, zs, rfl, hsq, hzs⟩ := row_at hd (show items (Tr.toD (.node w a b)) = some [.str w, a.toD, b.toD] from rfl)
      cases hzs with
      | cons h1 h2 =>
        cases h1
        exact ev_op hb ev_c (rv_ixQ (i := 0) hsq rfl)
theorem sum_words : ∀ ps : List Tr, (∀ p ∈ ps, p.word.length ≤ 1000) → ((ps.map Tr.word).map (·.length)).sum ≤ 1000 * ps.length
  | [], _ => Nat.zero_le _
  | p :: ps, h => by
    have h1 := h p List.mem_cons_self
    have h2 := sum_words ps fun q hq => h q (List.mem_cons_of_mem _ hq)
    simp only [List.map_cons, List.sum_cons, List.length_cons]
    omega
/-- ' '.join of the words -/
theorem ev_joinW {K : PySem.W.Frag} {σ : L2.St} {H : Hp} {tl : TE} {ps : List Tr} (h : EvL tl σ H (ps.map fun t => V.str t.word)) (hs : ∀ p ∈ ps, p.word.length ≤ 1000) (hl : ps.length ≤ 1000) :
    Ev (tM1 (fun x xs H Q => ∃ a p, ∃ ys : List Str, x = .str a ∧ xs = [.ref p] ∧ (SqL K H p (ys.map V.str) ∨ SqT K H p (ys.map V.str)) ∧ (ys.map (·.length)).sum + ys.length * a.length ≤ 16777216 ∧ Q (.str (Txt.join a ys)) H) (tC (.str " ")) tl) σ H (.str (Txt.join " " (ps.map Tr.word))) := by
  intro H1 e1 Q q
  refine ⟨⟨" ", rfl⟩, h H1 e1 _ fun p H2 hp e2 h2 => ?_⟩
  refine ⟨" ", p, ps.map Tr.word, rfl, rfl, .inl (sq_of (by rw [h2, List.map_map]; rfl)), ?_, q H2 e2⟩
  have h3 := sum_words ps hs
  rw [List.length_map]
  have h4 : (" " : Str).length = 1 := by decide +kernel
  rw [h4]
  omega
section
variable {P : Program} {w : World} {K : PySem.W.Frag} {mg : Str → Option Value} {base : Heap}
theorem ok_tx {f : Addr} {fd : FuncData} (F : Fun K "text_in" "text_in" sTx f fd) (B : Bl mg) (S : Cal P w K mg base CX0 1 "parts_in" ["statement"] (spPs K)) : FnOk P w K mg base CX0 2 f fd ["statement"] (spTx K) := by
  obtain ⟨fs, fds, Fs, ms, ks, bs⟩ := S.ex
  refine F.ok scTx (fun vs H Q E h => ?_) (fun cdv A outer s H vs Q E hr h => ?_)
  · obtain ⟨v, d, rfl, _⟩ := h
    rfl
  · obtain ⟨v, t, rfl, hd, hz, hsh, k⟩ := h
    refine ⟨_, pss_one (ps_ret (pe_join pe_str (pe_lc (own := [("part", 1)]) (g := gName 1) (tt := tYes) (te := tWord K 1) rfl scTx.nd (pi_tup (pe_call Fs hr (by rfl) ms ks bs .nil pass0 (pa_cons (pv 0) pa_nil))) (blkOk_by (N := nTx) (sc := defScope sTx) (by decide +kernel))
      (fun _ _ _ _ _ => pg_name (i := 1) scTx.nd rfl (Or.inl rfl)) (fun _ _ _ _ _ => pts_nil) (fun _ _ _ _ _ => pe_word rfl (Or.inl rfl) (by decide) (by decide) rfl B.isi rfl B.str)))), ?_⟩
    refine s_ret (ev_joinW (ps := t.parts) ?_ hsh (by rw [t.parts_len]; omega)) fun H2 e2 => k _ e2
    have e0 := el_lcTd (K := K) (ts := t.parts) (t := tYes) (te := tWord K 1) (vs := [1]) (j := 1) (σ := [some v, none]) (H := H) (tl := tCall (spPs K) [] E0 (tCons (tVar 0) tNil)) (fun _ => true) (fun t1 => .str t1.word) (fun H1 e1 Q1 q1 => ⟨v, rfl, v, t, rfl, Dx.ex e1 _ _ hd, hz, fun u H2 e2 hu => q1 u H2 e2 hu⟩) (by rw [t.parts_len]; omega) (fun _ => rfl) (fun _ _ _ _ _ _ => et_yes) (fun t1 x H2 e2 _ hdx _ => ev_word (ev_var rfl) (ev_var rfl) hdx)
    rw [List.filter_eq_self.mpr (fun _ _ => rfl)] at e0
    exact e0
end
end K2
set_option Elab.async false
set_option linter.all false
set_option maxRecDepth 100000
set_option maxHeartbeats 4000000
namespace K2
open PySem L2 Evl
theorem sqT_upd {K : PySem.W.Frag} {H : Hp} {a D : Addr} {xs ys : List V} {o : HO} (h : SqT K H a xs) (hD : H D = some (.lst ys)) : SqT K (upd H D o) a xs := by
  rcases h with (h | ⟨u, h⟩) | h
  · exact .inl (.inl (by rw [upd_ne (ne_of h hD (by intro z; cases z))]; exact h))
  · exact .inl (.inr ⟨u, by rw [upd_ne (ne_of h hD (by intro z; cases z))]; exact h⟩)
  · exact .inr h
/-- trees of tuples do not lean on a list -/
theorem Dx.updT {K : PySem.W.Frag} {H : Hp} {D : Addr} {ys : List V} {o : HO} (hD : H D = some (.lst ys)) : ∀ (t : Tr) (v : V), Dx K H v t.toD → Dx K (upd H D o) v t.toD
  | .leaf x, v, h => by
    cases h
    exact .str x
  | .node w a b, v, h => by
    cases h with
    | tup hs ha =>
      refine .tup (sqT_upd hs hD) ?_
      cases ha with
      | cons h0 ha => cases ha with
        | cons h1 ha => cases ha with
          | cons h2 ha =>
            cases ha
            cases h0
            exact .cons (.str w) (.cons (Dx.updT hD a _ h1) (.cons (Dx.updT hD b _ h2) .nil))
theorem DxAll.updT {K : PySem.W.Frag} {H : Hp} {D : Addr} {ys : List V} {o : HO} (hD : H D = some (.lst ys)) : ∀ (ts : List Tr) (vs : List V), DxAll K H vs (ts.map Tr.toD) → DxAll K (upd H D o) vs (ts.map Tr.toD)
  | [], _, h => by cases h; exact .nil
  | t :: ts, _, h => by
    cases h with
    | cons h1 h2 => exact .cons (Dx.updT hD t _ h1) (DxAll.updT hD ts _ h2)
section
variable {K : PySem.W.Frag} {σ : L2.St} {H : Hp} {tl tl1 : TE} {vs vs1 : List Nat} {j j1 : Nat}
/-- [part for s in [v1] for part in parts] -/
theorem lc2_one {a : Addr} {v1 : V} {ts : List Tr} (h : Ev tl σ H (.ref a)) (hx : SqL K H a [v1]) (hz : ts.length ≤ 40000) (hw : wipe ((wipe σ vs).set j (some v1)) vs = wipe σ vs) (hw1 : ∀ y, wipe ((wipe ((wipe σ vs).set j (some v1)) vs1).set j1 (some y)) vs1 = wipe ((wipe σ vs).set j (some v1)) vs1)
    (hv1 : ∀ y : V, ((wipe ((wipe σ vs).set j (some v1)) vs1).set j1 (some y))[j1]? = some (some y)) (h1 : ∀ H1, Ex H H1 → EvD K tl1 ((wipe σ vs).set j (some v1)) H1 (.tuple (ts.map Tr.toD))) :
    ∀ H0, Ex H H0 → ∀ Q : VK, (∀ D H2 ys, H0 D = none → Ex H0 H2 → H2 D = some (.lst ys) → DxAll K H2 ys (ts.map Tr.toD) → Q (.ref D) H2) → tLc2 (iList K tl) (gName j) tYes (iTup K tl1) (gName j1) tYes (tVar j1) vs vs1 σ H0 Q := by
  intro H0 e Q q
  refine h H0 e _ fun H1 e1 => ⟨a, rfl, ⟨[v1], ex_l (e.trans e1) hx⟩, fun D hD => ?_⟩
  have hx1 : ∀ {H'}, Ex H1 H' → SqL K H' a [v1] := fun e2 => ex_l ((e.trans e1).trans e2) hx
  refine ⟨fun i m H' => (i = 0 ∧ m = 1 ∧ Ex H1 H' ∧ H' D = some (.lst [])) ∨ (i = 1 ∧ m = 0 ∧ Ex H1 H' ∧ ∃ ys, H' D = some (.lst ys) ∧ DxAll K H' ys (ts.map Tr.toD)), ⟨1, .inl ⟨rfl, rfl, Ex.new hD, upd_same⟩⟩, ?_⟩
  rintro i m H' (⟨rfl, rfl, e2, hD2⟩ | ⟨rfl, rfl, e2, ys, hD2, hys⟩)
  · refine .inr ⟨⟨[v1], v1, hx1 e2, rfl⟩, fun H3 => Ex H1 H3 ∧ ∃ ys, H3 D = some (.lst ys) ∧ DxAll K H3 ys (ts.map Tr.toD), fun H3 h3 => ⟨0, by decide, .inr ⟨rfl, rfl, h3⟩⟩, fun x H3 hy => ?_⟩
    obtain ⟨rfl, hy⟩ := hy
    have ex := hy _ (hx1 e2)
    simp at ex
    subst ex
    refine ⟨hw, ?_⟩
    refine h1 H3 ((e.trans e1).trans e2) H3 (Ex.refl H3) _ fun u H4 e4 hu => ?_
    cases hu with
    | tup hsq hall =>
      rename_i b ys
      have hl : ys.length = ts.length := by rw [hall.length, List.length_map]
      have e5 : Ex H1 H4 := e2.trans e4
      refine ⟨b, rfl, ⟨ys, hsq⟩, fun i k H5 => i ≤ ys.length ∧ k = ys.length - i ∧ Ex H1 H5 ∧ H5 D = some (.lst (ys.take i)) ∧ DxAll K H5 ys (ts.map Tr.toD) ∧ SqT K H5 b ys, ⟨ys.length, Nat.zero_le _, by simp, e5, e4 _ _ hD2, hall, hsq⟩, ?_⟩
      rintro i k H5 ⟨hi, rfl, e6, hD5, hall5, hsq5⟩
      by_cases hlt : i < ys.length
      · refine .inr ⟨⟨ys, ys[i], hsq5, List.getElem?_eq_getElem hlt⟩, fun H6 => i + 1 ≤ ys.length ∧ Ex H1 H6 ∧ H6 D = some (.lst (ys.take (i + 1))) ∧ DxAll K H6 ys (ts.map Tr.toD) ∧ SqT K H6 b ys, fun H6 h6 => ⟨ys.length - (i + 1), by omega, h6.1, rfl, h6.2⟩, fun y H6 hy => ?_⟩
        obtain ⟨rfl, hy⟩ := hy
        have hy2 := hy _ hsq5
        rw [List.getElem?_eq_getElem hlt] at hy2
        have hy3 := Option.some.inj hy2
        refine ⟨hw1 y, y, hv1 y, ys.take i, hD5, Nat.lt_of_le_of_lt (List.length_take_le _ _) (Nat.lt_of_lt_of_le hlt (by rw [hl]; exact Nat.le_trans hz (by decide))), hlt, e6.mut hD, ?_, ?_, ?_⟩
        · rw [upd_same, List.take_succ, List.getElem?_eq_getElem hlt, ← hy3] <;> rfl
        · exact DxAll.updT hD5 ts _ hall5
        · exact sqT_upd hsq5 hD5
      · have ei : i = ys.length := by omega
        subst ei
        rw [List.take_length] at hD5
        exact .inl ⟨⟨ys, hsq5, Nat.le_refl _⟩, e6, ys, hD5, hall5⟩
  · exact .inl ⟨⟨[v1], hx1 e2, Nat.le_refl _⟩, q D _ ys (fresh_back e1 hD) (e1.trans e2) hD2 hys⟩
end
end K2
set_option Elab.async false
set_option linter.all false
set_option maxRecDepth 100000
set_option maxHeartbeats 4000000
namespace K2
open PySem L2 Evl
def Tr.isKind : Tr → Bool
  | .leaf x => !inV (.str x) (ss bare)
  | .node _ _ _ => false
theorem putK_old {kvs : List (L2.Key × V)} {k : L2.Key} {v : V} (hm : k ∈ kvs.map (·.1)) : (putK kvs k v).map (·.1) = kvs.map (·.1) := by
  unfold putK
  rw [if_pos (by
    obtain ⟨p, hp, e⟩ := List.mem_map.mp hm
    rw [List.any_eq_true]
    exact ⟨p, hp, decide_eq_true e⟩), List.map_map]
  refine List.map_congr_left fun p hp => ?_
  show (if p.1 = k then (p.1, v) else p).1 = p.1
  split <;> rfl
theorem putK_add {kvs : List (L2.Key × V)} {k : L2.Key} {v : V} (hm : ¬ k ∈ kvs.map (·.1)) : (putK kvs k v).map (·.1) = kvs.map (·.1) ++ [k] := by
  unfold putK
  rw [if_neg (fun h => hm (by
    rw [List.any_eq_true] at h
    obtain ⟨p, hp, e⟩ := h
    exact List.mem_map.mpr ⟨p, hp, of_decide_eq_true e⟩)), List.map_append] <;> rfl
/-- the words of kinds among ts, each once -/
structure Kd (ts : List Tr) (ks : List Str) : Prop where
  nd : ks.Nodup
  mem : ∀ x, x ∈ ks ↔ ∃ t ∈ ts, t.isKind = true ∧ t.word = x
  len : ks.length ≤ ts.length
section
variable {K : PySem.W.Frag} {σ : L2.St} {H : Hp} {tl tk tv : TE} {tt : TT} {vs : List Nat} {j : Nat}
theorem dc_kinds {l : Addr} {ys : List V} {ts : List Tr} {b : Bool} (h : Ev tl σ H (.ref l)) (hx : SqL K H l ys) (hd : DxAll K H ys (ts.map Tr.toD)) (hz : ts.length ≤ 40000) (hw : ∀ x, wipe ((wipe σ vs).set j (some x)) vs = wipe σ vs)
    (ht : ∀ (t1 : Tr) (x : V) H1, Ex H H1 → Dx K H1 x t1.toD → EvT tt ((wipe σ vs).set j (some x)) H1 t1.isKind) (hk : ∀ (t1 : Tr) (x : V) H1, Ex H H1 → Dx K H1 x t1.toD → t1.isKind = true → Ev tk ((wipe σ vs).set j (some x)) H1 (.str t1.word))
    (hv : ∀ (x : V) H1, Ex H H1 → Ev tv ((wipe σ vs).set j (some x)) H1 (.bl b)) :
    ∀ H0, Ex H H0 → ∀ Q : VK, (∀ D H2 kvs ks, H0 D = none → Ex H0 H2 → H2 D = some (.dK kvs) → kvs.map (·.1) = ks.map Sum.inr → Kd ts ks → Q (.ref D) H2) → tDc (iList K tl) (gName j) tt tk tv vs σ H0 Q := by
  intro H0 e Q q
  refine h H0 e _ fun H1 e1 => ⟨l, rfl, ⟨ys, ex_l (e.trans e1) hx⟩, fun D hD => ?_⟩
  have hl : ys.length = ts.length := by rw [hd.length, List.length_map]
  have hsz : ∀ {n : Nat}, n ≤ ts.length → n < sizeLine := fun {n} h => Nat.lt_of_le_of_lt (Nat.le_trans h hz) (by decide)
  refine ⟨fun i m H' => i ≤ ys.length ∧ m = ys.length - i ∧ Ex H1 H' ∧ ∃ kvs ks, H' D = some (.dK kvs) ∧ kvs.map (·.1) = ks.map Sum.inr ∧ Kd (ts.take i) ks, ⟨ys.length, Nat.zero_le _, by simp, Ex.new hD, [], [], upd_same, rfl, ⟨List.nodup_nil, fun x => by simp, by simp⟩⟩, ?_⟩
  rintro i m H' ⟨hi, rfl, e2, kvs, ks, hkv, hkk, hK⟩
  by_cases hlt : i < ys.length
  · refine .inr ⟨⟨ys, ys[i], ex_l ((e.trans e1).trans e2) hx, List.getElem?_eq_getElem hlt⟩, fun H6 => Ex H1 H6 ∧ ∃ kvs ks, H6 D = some (.dK kvs) ∧ kvs.map (·.1) = ks.map Sum.inr ∧ Kd (ts.take (i + 1)) ks, fun H6 h6 => ⟨ys.length - (i + 1), by omega, hlt, rfl, h6⟩, fun y H6 hy => ?_⟩
    obtain ⟨rfl, hy⟩ := hy
    have hy2 := hy _ (ex_l ((e.trans e1).trans e2) hx)
    obtain ⟨d, hd1, hd2⟩ := hd.getV hy2
    rw [List.getElem?_map] at hd1
    have hlt2 : i < ts.length := by rw [← hl]; exact hlt
    rw [List.getElem?_eq_getElem hlt2] at hd1
    have hd3 : Tr.toD ts[i] = d := Option.some.inj hd1
    rw [← hd3] at hd2
    have tk1 : ts.take (i + 1) = ts.take i ++ [ts[i]] := by rw [List.take_succ, List.getElem?_eq_getElem hlt2] <;> rfl
    have ee := (e.trans e1).trans e2
    refine ⟨hw y, ht ts[i] y H6 ee (Dx.ex ee _ _ hd2) H6 (Ex.refl H6) _ fun H7 e7 => ?_⟩
    cases hq : Tr.isKind ts[i] with
    | false =>
      refine iteF ⟨e2.trans e7, kvs, ks, e7 _ _ hkv, hkk, hK.nd, fun x => ?_, ?_⟩
      · rw [hK.mem x, tk1]
        constructor
        · rintro ⟨t, h1, h2⟩
          exact ⟨t, List.mem_append_left _ h1, h2⟩
        · rintro ⟨t, h1, h2, h3⟩
          rcases List.mem_append.mp h1 with z | z
          · exact ⟨t, z, h2, h3⟩
          · rw [List.mem_singleton.mp z, hq] at h2
            cases h2
      · have := hK.len
        rw [tk1, List.length_append]
        omega
    | true =>
      refine iteT (hk ts[i] y H7 (ee.trans e7) (Dx.ex (ee.trans e7) _ _ hd2) hq H7 (Ex.refl H7) _ fun H8 e8 => hv y H8 ((ee.trans e7).trans e8) H8 (Ex.refl H8) _ fun H9 e9 => ?_)
      have hkv9 := e9 _ _ (e8 _ _ (e7 _ _ hkv))
      have hkl : kvs.length = ks.length := by
        have := congrArg List.length hkk
        rw [List.length_map, List.length_map] at this
        exact this
      have hKl := hK.len
      rw [List.length_take] at hKl
      refine ⟨kvs, .inr ts[i].word, rfl, hkv9, hsz (by omega), (((e2.trans e7).trans e8).trans e9).mut hD, _, if ts[i].word ∈ ks then ks else ks ++ [ts[i].word], upd_same, ?_, ?_⟩
      · by_cases hm : ts[i].word ∈ ks
        · rw [if_pos hm, putK_old (by rw [hkk]; exact List.mem_map_of_mem hm), hkk]
        · rw [if_neg hm, putK_add (fun z => hm (by
            rw [hkk] at z
            obtain ⟨x, h1, h2⟩ := List.mem_map.mp z
            cases h2
            exact h1)), hkk, List.map_append] <;> rfl
      · have memx : ∀ x, (x ∈ ks ∨ x = ts[i].word) ↔ ∃ t ∈ ts.take (i + 1), t.isKind = true ∧ t.word = x := fun x => by
          rw [hK.mem x, tk1]
          constructor
          · rintro (⟨t, h1, h2⟩ | h1)
            · exact ⟨t, List.mem_append_left _ h1, h2⟩
            · exact ⟨ts[i], List.mem_append_right _ (List.mem_singleton.mpr rfl), hq, h1.symm⟩
          · rintro ⟨t, h1, h2, h3⟩
            rcases List.mem_append.mp h1 with z | z
            · exact .inl ⟨t, z, h2, h3⟩
            · rw [List.mem_singleton.mp z] at h3
              exact .inr h3.symm
        by_cases hm : ts[i].word ∈ ks
        · rw [if_pos hm]
          refine ⟨hK.nd, fun x => ?_, ?_⟩
          · rw [← memx x]
            exact ⟨.inl, fun z => z.elim id fun z => by rw [z]; exact hm⟩
          · rw [List.length_take]
            omega
        · rw [if_neg hm]
          refine ⟨?_, fun x => ?_, ?_⟩
          · rw [List.nodup_append]
            refine ⟨hK.nd, by simp, fun a ha b hb z => hm ?_⟩
            rw [List.mem_singleton.mp hb] at z
            rw [← z]
            exact ha
          · rw [← memx x, List.mem_append, List.mem_singleton]
          · rw [List.length_append, List.length_take, List.length_singleton]
            omega
  · have ei : i = ys.length := by omega
    subst ei
    rw [hl, List.take_length] at hK
    exact .inl ⟨⟨ys, ex_l ((e.trans e1).trans e2) hx, Nat.le_refl _⟩, q D _ kvs ks (fresh_back e1 hD) (e1.trans e2) hkv hkk hK⟩
end
end K2
set_option Elab.async false
set_option linter.all false
set_option maxRecDepth 100000
set_option maxHeartbeats 4000000
namespace K2
open PySem L2 Evl TxS
abbrev sKd : Stmt := top 42
def spKd (K : PySem.W.Frag) : Sp := fun vs H Q _ => ∃ (v : V) (t : Tr), vs = [v] ∧ Dx K H v t.toD ∧ ∀ H', Ex H H' → Q (.bl t.isKind) H'
theorem scKd : FnScope ["statement"] ["statement"] (defScope sKd) := ⟨rfl, rfl, rfl, by decide +kernel, rfl, by decide +kernel, by decide +kernel⟩
abbrev sKi : Stmt := top 43
/-- the kinds of a statement, sorted -/
structure KdS (t : Tr) (ks : List Str) : Prop where
  nd : ks.Nodup
  mem : ∀ x, x ∈ ks ↔ ∃ p ∈ t.parts, p.isKind = true ∧ p.word = x
  srt : PyProof.Rows.sortedS ks = true
def spKi (K : PySem.W.Frag) : Sp := fun vs H Q _ => ∃ (a : Addr) (v : V) (t : Tr), vs = [.ref a] ∧ SqL K H a [v] ∧ Dx K H v t.toD ∧ t.size ≤ 50 ∧ ∀ u H' ks, Ex H H' → Dx K H' u (.tuple (ks.map PyData.str)) → KdS t ks → Q u H'
def nKi : List Str := ["statements", "some", "statement", "part"]
theorem scKi : FnScope nKi ["statements"] (defScope sKi) := ⟨rfl, rfl, rfl, by decide +kernel, rfl, by decide +kernel, by decide +kernel⟩
/-- evaluates to something of which P is known -/
def EvP (te : TE) (σ : L2.St) (H : Hp) (P : V → Hp → Prop) : Prop := ∀ Q : VK, (∀ v H1, Ex H H1 → P v H1 → Q v H1) → te σ H Q
section
variable {te : TE} {σ : L2.St} {H : Hp} {P P2 : V → Hp → Prop} {D : Ends} {tz : TS}
theorem q_asgP {i : Nat} (h : EvP te σ H P) (k : ∀ v H1, Ex H H1 → P v H1 → tz D (σ.set i (some v)) H1) : tSeq (tAsg te (gName i)) tz D σ H := h _ k
theorem s_asgP {i : Nat} (h : EvP te σ H P) (k : ∀ v H1, Ex H H1 → P v H1 → D.nx (σ.set i (some v)) H1) : tAsg te (gName i) D σ H := h _ k
theorem s_retP (h : EvP te σ H P) (k : ∀ v H1, Ex H H1 → P v H1 → D.rt v H1) : tRet te D σ H := h _ k
theorem evp_cb1 {r : List V → Hp → VK → Prop} (h : EvP te σ H P) (hr : ∀ v H1, Ex H H1 → P v H1 → ∀ Q : VK, (∀ u H2, Ex H1 H2 → P2 u H2 → Q u H2) → r [v] H1 Q) : EvP (tCB r (tCons te tNil)) σ H P2 := fun Q q =>
  h _ fun v H1 e1 p => hr v H1 e1 p Q fun u H2 e2 p2 => q u H2 (e1.trans e2) p2
theorem evp_then {k : V → Hp → VK → Prop} (h : EvP te σ H P) (hr : ∀ v H1, Ex H H1 → P v H1 → ∀ Q : VK, (∀ u H2, Ex H1 H2 → P2 u H2 → Q u H2) → k v H1 Q) : EvP (tThen te k) σ H P2 := fun Q q =>
  h _ fun v H1 e1 p => hr v H1 e1 p Q fun u H2 e2 p2 => q u H2 (e1.trans e2) p2
end
theorem dxs_of (K : PySem.W.Frag) (H : Hp) : ∀ ks : List Str, DxAll K H (ks.map V.str) (ks.map PyData.str)
  | [] => .nil
  | k :: ks => .cons (.str k) (dxs_of K H ks)
section
variable {P : Program} {w : World} {K : PySem.W.Frag} {mg : Str → Option Value} {base : Heap}
theorem ok_kd {f : Addr} {fd : FuncData} (F : Fun K "is_kind" "is_kind" sKd f fd) (B : Bl mg) (C : Cn K mg) : FnOk P w K mg base CX0 1 f fd ["statement"] (spKd K) := by
  obtain ⟨ab, hB, hBt⟩ := C.bare
  refine F.ok scKd (fun vs H Q E h => ?_) (fun cdv A outer s H vs Q E hr h => ?_)
  · obtain ⟨v, d, rfl, _⟩ := h
    rfl
  · obtain ⟨v, t, rfl, hd, k⟩ := h
    refine ⟨_, pss_one (ps_ret (pe_and (pe_callB call_isi (by rfl) B.isi bIsi (pa_cons (pv 0) (pa_cons (pe_bltn (v := .ty "str") (by rfl) B.str bStr rfl) pa_nil))) (pe_one (pe_cmpR op_notIn_seq (pv 0) (pe_glob (v := .ref ab) (by rfl) hB rfl) (by with_unfolding_all rfl))))), ?_⟩
    refine s_ret (v := .bl t.isKind) ?_ fun H1 e1 => k _ e1
    cases t with
    | leaf x =>
      cases hd
      refine ev_is (ev_andV (a := true) (b := !inV (.str x) (ss bare)) (ev_isTxt (ev_var rfl) (.str x)) fun _ => ev_op (ev_var rfl) ev_c (rv_niT hBt.sq rfl (flat_ss _))) ?_
      rw [Bool.true_and] <;> rfl
    | node w1 a b => exact ev_andV (a := false) (b := false) (ev_isTxt (ev_var rfl) hd) fun z => nomatch z
theorem ok_ki {f : Addr} {fd : FuncData} (F : Fun K "kinds_in" "kinds_in" sKi f fd) (B : Bl mg) (S : Cal P w K mg base CX0 1 "parts_in" ["statement"] (spPs K)) (Kd1 : Cal P w K mg base CX0 1 "is_kind" ["statement"] (spKd K)) : FnOk P w K mg base CX0 2 f fd ["statements"] (spKi K) := by
  obtain ⟨fs, fds, Fs, ms, ks, bs⟩ := S.ex
  obtain ⟨fk, fdk, Fk, mk, kk, bk⟩ := Kd1.ex
  refine F.ok scKi (fun vs H Q E h => ?_) (fun cdv A outer s H vs Q E hr h => ?_)
  · obtain ⟨a, v, t, rfl, _⟩ := h
    rfl
  · obtain ⟨a, v, t, rfl, ha, hd, hz, k⟩ := h
    refine ⟨_, pss_cons (ps_setLc2 (i := 1) (own := [("statement", 2), ("part", 3)]) (vs1 := [3]) (g := gName 2) (tt := tYes) (wi1 := iTup K (tCall (spPs K) [] E0 (tCons (tVar 2) tNil))) (g1 := gName 3) (tt1 := tYes) (te := tVar 3) rfl scKi.nd rfl rfl (sw_true rfl rfl rfl (by decide +kernel)) (pi_list (pv 0)) (blkOk_by (N := nKi) (sc := defScope sKi) (by decide +kernel)) (by decide)
        (fun _ _ _ _ _ => pg_name (i := 2) scKi.nd rfl (Or.inl rfl)) (fun _ _ _ _ _ => pts_nil) (fun _ _ _ _ _ => pi_tup (pe_call Fs hr (by rfl) ms ks bs .nil pass0 (pa_cons (pv 2) pa_nil))) (fun _ _ _ _ _ => pg_name (i := 3) scKi.nd rfl (Or.inl rfl)) (fun _ _ _ _ _ => pts_nil) (fun _ _ _ _ _ => pv 3))
      (pss_one (ps_ret (pe_tupleOf (by rfl) B.tuple (pe_callB (cr_sortDct rfl) (by rfl) B.sorted (by decide +kernel) (pa_cons
        (pe_dc (own := [("part", 3)]) (g := gName 3) (tt := tB (tCall (spKd K) [] E0 (tCons (tVar 3) tNil))) (tk := tVar 3) (tv := tC (.bl true)) rfl scKi.nd (pi_list (pv 1)) (blkOk_by (N := nKi) (sc := defScope sKi) (by decide +kernel))
          (fun _ _ _ _ _ => pg_name (i := 3) scKi.nd rfl (Or.inl rfl)) (fun _ _ _ _ _ => pts_one (pt_val (pe_call Fk hr (by rfl) mk kk bk .nil pass0 (pa_cons (pv 3) pa_nil)))) (fun _ _ _ _ _ => pv 3) (fun _ _ _ _ _ => pe_bl)) pa_nil))))), ?_⟩
    have hpl := t.parts_len
    refine q_asgP (P := fun u H2 => ∃ D ys, u = .ref D ∧ H2 D = some (.lst ys) ∧ DxAll K H2 ys (t.parts.map Tr.toD)) (fun Q1 q1 => lc2_one (K := K) (tl := tVar 0) (tl1 := tCall (spPs K) [] E0 (tCons (tVar 2) tNil)) (vs := [2, 3]) (vs1 := [3]) (j := 2) (j1 := 3) (σ := [some (.ref a), none, none, none]) (H := H) (ts := t.parts) (ev_var rfl) ha (by omega) rfl (fun _ => rfl) (fun _ => rfl) (fun H1 e1 H2 e2 Q1 q1 => ⟨v, rfl, v, t, rfl, Dx.ex (e1.trans e2) _ _ hd, by omega, fun u H3 e3 hu => q1 u H3 e3 hu⟩) H (Ex.refl H) Q1 fun D H2 ys hD e2 hD2 hys => q1 _ H2 e2 ⟨D, ys, rfl, hD2, hys⟩) fun u H2 e2 hu => ?_
    obtain ⟨D, ys, rfl, hD2, hys⟩ := hu
    refine s_retP (P := fun u H4 => ∃ ks, Dx K H4 u (.tuple (ks.map PyData.str)) ∧ KdS t ks) (evp_then (P := fun u H3 => ∃ p ks, u = .ref p ∧ H3 p = some (.lst (ks.map V.str)) ∧ KdS t ks) (evp_cb1 (P := fun u H3 => ∃ D2 kvs ks, u = .ref D2 ∧ H3 D2 = some (.dK kvs) ∧ kvs.map (·.1) = ks.map Sum.inr ∧ Kd t.parts ks)
      (fun Q1 q1 => dc_kinds (K := K) (tl := tVar 1) (tt := tB (tCall (spKd K) [] E0 (tCons (tVar 3) tNil))) (tk := tVar 3) (tv := tC (.bl true)) (b := true) (vs := [3]) (j := 3) (σ := [some (.ref a), some (.ref D), none, none]) (H := H2) (ev_var rfl) (SqL.of hD2) hys (by omega) (fun _ => rfl) (fun t1 x H1 e1 hx => ?_) (fun t1 x H1 e1 hx hk => ?_) (fun x H1 e1 => ev_c) H2 (Ex.refl H2) Q1 fun D2 H3 kvs ks1 hD3 e3 hkv hkk hK => q1 _ H3 e3 ⟨D2, kvs, ks1, rfl, hkv, hkk, hK⟩)
      (fun u H3 e3 hu Q1 q1 => ?_)) (fun u H3 e3 hu Q1 q1 => ?_)) (fun u H4 e4 hu => ?_)
    · exact et_B (fun H5 e5 Q1 q1 => ⟨x, rfl, x, t1, rfl, Dx.ex e5 _ _ hx, fun H6 e6 => q1 H6 e6⟩)
    · cases t1 with
      | leaf y =>
        cases hx
        exact ev_var rfl
      | node w1 a b => cases hk
    · obtain ⟨D2, kvs, ks1, rfl, hkv, hkk, hK⟩ := hu
      refine ⟨D2, kvs, ks1, rfl, hkv, hkk, ?_, fun p ys1 hp hs hpn => q1 _ _ (Ex.new hpn) ⟨p, ys1, rfl, upd_same, ⟨hp.nodup_iff.mpr hK.nd, fun x => ?_, hs⟩⟩⟩
      · have := hK.len
        omega
      · rw [hp.mem_iff]
        exact hK.mem x
    · obtain ⟨p, ks1, rfl, hp, hK⟩ := hu
      exact .inl ⟨p, _, rfl, SqL.of hp, fun q hq => q1 _ _ (Ex.new hq) ⟨ks1, .tup (st_of upd_same) (dxs_of K _ ks1), hK⟩⟩
    · obtain ⟨ks1, h1, h2⟩ := hu
      exact k u _ ks1 (e2.trans e4) h1 h2
end
end K2
set_option Elab.async false
set_option linter.all false
set_option maxRecDepth 100000
set_option maxHeartbeats 4000000
namespace K2
open PySem L2 Evl
/-- a def that may be called by its name, its last arguments filled up by defaults -/
structure CalD (P : Program) (w : World) (K : PySem.W.Frag) (mg : Str → Option Value) (base : Heap) (CX : CXT) (k : Nat) (x : Str) (ps : List Str) (dvs : List V) (sp : Sp) : Prop where
  ex : ∃ (f : Addr) (fd : FuncData) (ds : List Value), FnOk P w K mg base CX k f fd ps sp ∧ mg x = some (.ref f) ∧ PySem.W.keepIn K (.ref f) = true ∧ Vals dvs ds ∧ Binds K fd ps ds
abbrev sPo : Stmt := top 45
abbrev sSo : Stmt := top 46
abbrev sKo : Stmt := top 47
abbrev sTo : Stmt := top 48
/-- a look at what is given: a good tree is answered by R, all else raises -/
def spOf (K : PySem.W.Frag) (C : Addr) (R : Tr → V → Hp → Prop) : Sp := fun vs H Q E => ∃ v d, vs = [v] ∧ Dx K H v d ∧ tame d = true ∧ nodes d ≤ 1000 ∧ (∀ t, IsT d t → t.ok = true → t.size ≤ 24 → ∀ u H', Ex H H' → R t u H' → Q u H') ∧
  (chk 24 [d] = false → ∀ dx H', Ex H H' → H' dx = some (.xd [("part", .str "statement")]) → E (.ref C) (some dx) H')
def RPo (K : PySem.W.Frag) : Tr → V → Hp → Prop := fun t u H => Dx K H u (.tuple (t.parts.map Tr.toD))
def RSo : Tr → V → Hp → Prop := fun t u _ => u = .int (t.size : Nat)
def RKo (K : PySem.W.Frag) : Tr → V → Hp → Prop := fun t u H => ∃ ks, Dx K H u (.tuple (ks.map PyData.str)) ∧ KdS t ks
def RTo : Tr → V → Hp → Prop := fun t u _ => u = .str t.text
theorem scPo : FnScope ["statement"] ["statement"] (defScope sPo) := ⟨rfl, rfl, rfl, by decide +kernel, rfl, by decide +kernel, by decide +kernel⟩
theorem scSo : FnScope ["statement"] ["statement"] (defScope sSo) := ⟨rfl, rfl, rfl, by decide +kernel, rfl, by decide +kernel, by decide +kernel⟩
theorem scKo : FnScope ["statement"] ["statement"] (defScope sKo) := ⟨rfl, rfl, rfl, by decide +kernel, rfl, by decide +kernel, by decide +kernel⟩
theorem scTo : FnScope ["statement"] ["statement"] (defScope sTo) := ⟨rfl, rfl, rfl, by decide +kernel, rfl, by decide +kernel, by decide +kernel⟩
theorem tame_short2 {w : Str} {a b : PyData} {ta tb : Tr} (ha : tame a = true → ta.short) (hb : tame b = true → tb.short) (h : (decide (w.length ≤ 1000) && (tame a && (tame b && true))) = true) : (Tr.node w ta tb).short := by
  intro p hp
  rw [Bool.and_true, Bool.and_eq_true, Bool.and_eq_true] at h
  rcases List.mem_cons.mp hp with z | hp
  · rw [z]
    exact of_decide_eq_true h.1
  · rcases List.mem_append.mp hp with hp | hp
    · exact ha h.2.1 p hp
    · exact hb h.2.2 p hp
theorem tame_short {d : PyData} {t : Tr} (h : IsT d t) : tame d = true → t.short := by
  induction h with
  | leaf x =>
    intro h p hp
    rw [Tr.parts, List.mem_singleton] at hp
    rw [hp]
    exact of_decide_eq_true h
  | lst _ _ ia ib => exact fun h => tame_short2 ia ib h
  | tup _ _ ia ib => exact fun h => tame_short2 ia ib h
section
variable {P : Program} {w : World} {K : PySem.W.Frag} {mg : Str → Option Value} {base : Heap} {C : Addr}
theorem need_arg {X : Cx} {N : List Str} {cdv : Value} {A : Around} {outer : List Env} {s : Shared} {H : Hp} {E : XK} {v : V} {d : PyData} {Q : VK} {σ : L2.St} {t : TA} (R : Tr → V → Hp → Prop)
    (ht : ∀ H' Q', Ex H H' → (∀ H2, Ex H' H2 → Q' [v] H2) → t σ H' Q') (hd : Dx K H v d) (hm : tame d = true) (hn : nodes d ≤ 1000)
    (kt : ∀ t, IsT d t → t.ok = true → t.size ≤ 24 → ∀ u H', Ex H H' → Dx K H' u t.toD → Q u H') (kf : chk 24 [d] = false → ∀ dx H', Ex H H' → H' dx = some (.xd [("part", .str "statement")]) → E (.ref C) (some dx) H') :
    tCall (spNeed K C) [.str "statement"] E t σ H Q := by
  refine ht H _ (Ex.refl H) fun H2 e2 => ?_
  refine ⟨v, d, "statement", rfl, Dx.ex e2 _ _ hd, hm, hn, fun hc u H' e hu => ?_, fun hc dx H' e hx => kf hc dx H' (e2.trans e) hx⟩
  obtain ⟨t, h1, h2, h3⟩ := chk1_tree hc
  rw [h1.fix] at hu
  exact kt t h1 h2 h3 u H' (e2.trans e) hu
theorem ok_po {f : Addr} {fd : FuncData} (F : Fun K "parts_of" "parts_of" sPo f fd) (N : CalD P w K mg base (L2.CX P w) 4 "need_statement" ["value", "part"] [.str "statement"] (spNeed K C)) (S : Cal P w K mg base CX0 1 "parts_in" ["statement"] (spPs K)) :
    FnOk P w K mg base (L2.CX P w) 5 f fd ["statement"] (spOf K C (RPo K)) := by
  obtain ⟨fn, fdn, ds, Fn, mn, kn, vn, bn⟩ := N.ex
  obtain ⟨fs, fds, Fs, ms, ks, bs⟩ := S.ex
  refine F.okX scPo (fun vs H Q E h => ?_) (fun cdv A outer s H vs Q E hr h => ?_)
  · obtain ⟨v, d, rfl, _⟩ := h
    rfl
  · obtain ⟨v, d, rfl, hd, hm, hn, kt, kf⟩ := h
    refine ⟨_, pss_one (ps_ret (pe_call Fs (hr.mono (by decide)) (by rfl) ms ks bs .nil pass0 (pa_cons (pe_call Fn hr (by rfl) mn kn bn vn (passes_call (E := E) (takes_of rfl rfl rfl rfl) fun _ _ _ _ h => h) (pa_cons (pv 0) pa_nil)) pa_nil))), ?_⟩
    refine need_arg (X := cxOf (L2.CX P w) P w K mg base ["statement"] "parts_of" (defScope sPo) f cdv A outer s H E) (N := []) (cdv := cdv) (A := A) (outer := outer) (s := s) (H := H) (E := E) (v := v) (d := d) (RPo K) (fun H' Q' e q => ⟨v, rfl, q H' (Ex.refl H')⟩) hd hm hn (fun t h1 h2 h3 u H' e hu => ?_) kf
    exact ⟨u, t, rfl, hu, by omega, fun u2 H2 e2 hu2 => kt t h1 h2 h3 u2 H2 (e.trans e2) hu2⟩
theorem ok_so {f : Addr} {fd : FuncData} (F : Fun K "size_of" "size_of" sSo f fd) (B : Bl mg) (N : CalD P w K mg base (L2.CX P w) 4 "need_statement" ["value", "part"] [.str "statement"] (spNeed K C)) (S : Cal P w K mg base CX0 1 "parts_in" ["statement"] (spPs K)) :
    FnOk P w K mg base (L2.CX P w) 5 f fd ["statement"] (spOf K C RSo) := by
  obtain ⟨fn, fdn, ds, Fn, mn, kn, vn, bn⟩ := N.ex
  obtain ⟨fs, fds, Fs, ms, ks, bs⟩ := S.ex
  refine F.okX scSo (fun vs H Q E h => ?_) (fun cdv A outer s H vs Q E hr h => ?_)
  · obtain ⟨v, d, rfl, _⟩ := h
    rfl
  · obtain ⟨v, d, rfl, hd, hm, hn, kt, kf⟩ := h
    refine ⟨_, pss_one (ps_ret (pe_callB call_len (by rfl) B.len bLen (pa_cons (pe_call Fs (hr.mono (by decide)) (by rfl) ms ks bs .nil pass0 (pa_cons (pe_call Fn hr (by rfl) mn kn bn vn (passes_call (E := E) (takes_of rfl rfl rfl rfl) fun _ _ _ _ h => h) (pa_cons (pv 0) pa_nil)) pa_nil)) pa_nil))), ?_⟩
    refine need_arg (X := cxOf (L2.CX P w) P w K mg base ["statement"] "size_of" (defScope sSo) f cdv A outer s H E) (N := []) (cdv := cdv) (A := A) (outer := outer) (s := s) (H := H) (E := E) (v := v) (d := d) (RPo K) (fun H' Q' e q => ⟨v, rfl, q H' (Ex.refl H')⟩) hd hm hn (fun t h1 h2 h3 u H' e hu => ?_) kf
    refine ⟨u, t, rfl, hu, by omega, fun u2 H2 e2 hu2 => ?_⟩
    cases hu2 with
    | tup hsq hall =>
      refine ⟨_, _, rfl, lenV_sq (.inr hsq), kt t h1 h2 h3 _ H2 (e.trans e2) ?_⟩
      show _ = V.int _
      rw [hall.length, List.length_map, t.parts_len]
theorem ok_ko {f : Addr} {fd : FuncData} (F : Fun K "kinds_of" "kinds_of" sKo f fd) (N : CalD P w K mg base (L2.CX P w) 4 "need_statement" ["value", "part"] [.str "statement"] (spNeed K C)) (S : Cal P w K mg base CX0 2 "kinds_in" ["statements"] (spKi K)) :
    FnOk P w K mg base (L2.CX P w) 5 f fd ["statement"] (spOf K C (RKo K)) := by
  obtain ⟨fn, fdn, ds, Fn, mn, kn, vn, bn⟩ := N.ex
  obtain ⟨fs, fds, Fs, ms, ks, bs⟩ := S.ex
  refine F.okX scKo (fun vs H Q E h => ?_) (fun cdv A outer s H vs Q E hr h => ?_)
  · obtain ⟨v, d, rfl, _⟩ := h
    rfl
  · obtain ⟨v, d, rfl, hd, hm, hn, kt, kf⟩ := h
    refine ⟨_, pss_one (ps_ret (pe_call Fs (hr.mono (by decide)) (by rfl) ms ks bs .nil pass0 (pa_cons (pe_lst (pa_cons (pe_call Fn hr (by rfl) mn kn bn vn (passes_call (E := E) (takes_of rfl rfl rfl rfl) fun _ _ _ _ h => h) (pa_cons (pv 0) pa_nil)) pa_nil)) pa_nil))), ?_⟩
    refine need_arg (X := cxOf (L2.CX P w) P w K mg base ["statement"] "kinds_of" (defScope sKo) f cdv A outer s H E) (N := []) (cdv := cdv) (A := A) (outer := outer) (s := s) (H := H) (E := E) (v := v) (d := d) (RPo K) (fun H' Q' e q => ⟨v, rfl, q H' (Ex.refl H')⟩) hd hm hn (fun t h1 h2 h3 u H' e hu => ?_) kf
    refine ⟨(by show 1 ≤ sizeLine; decide), fun p hp => ⟨p, u, t, rfl, SqL.of upd_same, Dx.ex (Ex.new hp) _ _ hu, by omega, fun u2 H2 kl e2 hu2 hk => kt t h1 h2 h3 u2 H2 ((e.trans (Ex.new hp)).trans e2) ⟨kl, hu2, hk⟩⟩⟩
theorem ok_to {f : Addr} {fd : FuncData} (F : Fun K "statement_text" "statement_text" sTo f fd) (N : CalD P w K mg base (L2.CX P w) 4 "need_statement" ["value", "part"] [.str "statement"] (spNeed K C)) (S : Cal P w K mg base CX0 2 "text_in" ["statement"] (spTx K)) :
    FnOk P w K mg base (L2.CX P w) 5 f fd ["statement"] (spOf K C RTo) := by
  obtain ⟨fn, fdn, ds, Fn, mn, kn, vn, bn⟩ := N.ex
  obtain ⟨fs, fds, Fs, ms, ks, bs⟩ := S.ex
  refine F.okX scTo (fun vs H Q E h => ?_) (fun cdv A outer s H vs Q E hr h => ?_)
  · obtain ⟨v, d, rfl, _⟩ := h
    rfl
  · obtain ⟨v, d, rfl, hd, hm, hn, kt, kf⟩ := h
    refine ⟨_, pss_one (ps_ret (pe_call Fs (hr.mono (by decide)) (by rfl) ms ks bs .nil pass0 (pa_cons (pe_call Fn hr (by rfl) mn kn bn vn (passes_call (E := E) (takes_of rfl rfl rfl rfl) fun _ _ _ _ h => h) (pa_cons (pv 0) pa_nil)) pa_nil))), ?_⟩
    refine need_arg (X := cxOf (L2.CX P w) P w K mg base ["statement"] "statement_text" (defScope sTo) f cdv A outer s H E) (N := []) (cdv := cdv) (A := A) (outer := outer) (s := s) (H := H) (E := E) (v := v) (d := d) (RPo K) (fun H' Q' e q => ⟨v, rfl, q H' (Ex.refl H')⟩) hd hm hn (fun t h1 h2 h3 u H' e hu => ?_) kf
    exact ⟨u, t, rfl, hu, by omega, tame_short h1 hm, fun H2 e2 => kt t h1 h2 h3 _ H2 (e.trans e2) rfl⟩
/-- need_statement with its default -/
theorem cal_need {f : Addr} {fd : FuncData} (F : FunD K "need_statement" "need_statement" (defArgs sNeed) (defBody sNeed) (defScope sNeed) [.str "statement"] [] f fd) (hm : mg "need_statement" = some (.ref f)) (O : FnOk P w K mg base (L2.CX P w) 4 f fd ["value", "part"] (spNeed K C)) :
    CalD P w K mg base (L2.CX P w) 4 "need_statement" ["value", "part"] [.str "statement"] (spNeed K C) := by
  obtain ⟨ds, h1, h2⟩ := F.binds1 (ps := ["value", "part"]) 1 0 (by simp) rfl (fun T kV doc pm an cdv ct us its hu hi => by
    obtain ⟨u, rfl⟩ : ∃ u, us = [u] := by
      match us, hu with
      | [u], _ => exact ⟨u, rfl⟩
    obtain ⟨i, rfl⟩ : ∃ i, its = [i] := by
      match its, hi with
      | [i], _ => exact ⟨i, rfl⟩
    exact ⟨_, rfl, rfl⟩)
  exact ⟨f, fd, ds, O, hm, F.kp, h1, h2⟩
end
end K2
set_option Elab.async false
set_option linter.all false
set_option maxRecDepth 100000
set_option maxHeartbeats 4000000
namespace K2
open PySem L2 Evl
/-! ### the pen -/
/-- all but the pen stays -/
def ExP (pen : Addr) (H H' : Hp) : Prop := (∀ a o, a ≠ pen → H a = some o → H' a = some o) ∧ ∀ c r, H pen = some (.lst (.ref c :: r)) → ∃ r', H' pen = some (.lst (.ref c :: r'))
theorem ExP.refl (pen : Addr) (H : Hp) : ExP pen H H := ⟨fun _ _ _ h => h, fun c r h => ⟨r, h⟩⟩
theorem ExP.trans {pen : Addr} {H H1 H2 : Hp} (a : ExP pen H H1) (b : ExP pen H1 H2) : ExP pen H H2 := ⟨fun x o n h => b.1 x o n (a.1 x o n h), fun c r h => let ⟨r', h'⟩ := a.2 c r h; b.2 c r' h'⟩
theorem _root_.Evl.Ex.toP {pen : Addr} {H H' : Hp} (e : Ex H H') : ExP pen H H' := ⟨fun a o _ h => e a o h, fun c r h => ⟨r, e _ _ h⟩⟩
def PenS (pen : Addr) (T : Nat) (H : Hp) : Prop := ∃ (c : Addr) (cs : List Int) (n : Nat) (r : Int), H pen = some (.lst [.ref c, .int (n : Int), .int r]) ∧ H c = some (.lst (cs.map V.int)) ∧ cs.length ≤ 63 ∧ n ≤ T
theorem PenS.ex {pen : Addr} {T : Nat} {H H' : Hp} (h : PenS pen T H) (e : Ex H H') : PenS pen T H' := by
  obtain ⟨c, cs, n, r, h1, h2, h3⟩ := h
  exact ⟨c, cs, n, r, e _ _ h1, e _ _ h2, h3⟩
theorem PenS.le {pen : Addr} {T T' : Nat} {H : Hp} (h : PenS pen T H) (l : T ≤ T') : PenS pen T' H := by
  obtain ⟨c, cs, n, r, h1, h2, h3, h4⟩ := h
  exact ⟨c, cs, n, r, h1, h2, h3, Nat.le_trans h4 l⟩
theorem pen_ne {H : Hp} {pen c : Addr} {cs : List Int} {a b : V} (h1 : H pen = some (.lst [.ref c, a, b])) (h2 : H c = some (.lst (cs.map V.int))) : c ≠ pen := by
  intro z
  rw [z, h1] at h2
  cases cs with
  | nil => cases h2
  | cons _ _ => cases h2
abbrev sPen : Stmt := top 50
abbrev sDraw : Stmt := top 51
abbrev sPick : Stmt := top 52
def spPen (K : PySem.W.Frag) : Sp := fun vs H Q _ => ∃ (a : Addr) (ns : List Int), vs = [.ref a] ∧ SqL K H a (ns.map V.int) ∧ ns.length ≤ 63 ∧ ∀ pen H', H pen = none → Ex H H' → PenS pen 0 H' → Q (.ref pen) H'
def spDraw : Sp := fun vs H Q _ => ∃ (pen : Addr) (m T : Nat), vs = [.ref pen, .int (m : Int)] ∧ 0 < m ∧ m < 1000000 ∧ PenS pen T H ∧ T < 1000000 ∧ ∀ (j : Nat) H', j < m → ExP pen H H' → PenS pen (T + 1) H' → Q (.int (j : Int)) H'
def nDraw : List Str := ["pen", "many", "rest", "turn", "cell", "mixed"]
theorem scPen : FnScope ["script", "cell"] ["script"] (defScope sPen) := ⟨rfl, rfl, rfl, by decide +kernel, rfl, by decide +kernel, by decide +kernel⟩
theorem scDraw : FnScope nDraw ["pen", "many"] (defScope sDraw) := ⟨rfl, rfl, rfl, by decide +kernel, rfl, by decide +kernel, by decide +kernel⟩
theorem bInt : bootBuiltins "int" = some (.type "int") := by decide +kernel
theorem bAbs : bootBuiltins "abs" = some (.builtin "abs") := by decide +kernel
def cellV (cs : List Int) (n : Nat) : Int := if cs.isEmpty = true then 52711 * (n : Int) + 9241 else cs.getD (n % cs.length) 0
def rInt1 : List V → Hp → VK → Prop := fun xs H Q => (∃ i, xs = [.int i] ∧ Q (.int i) H) ∨ ∃ k, xs = [.bl k] ∧ Q (.int (if k then 1 else 0)) H
section
variable {σ : L2.St} {H : Hp} {ta : TE} {i : Int} {k : Bool}
theorem ev_int (h : Ev ta σ H (.int i)) : Ev (tCB rInt1 (tCons ta tNil)) σ H (.int i) := ev_cb (ea_cons h ea_nil) fun H1 _ Q q => .inl ⟨i, rfl, q H1 (Ex.refl H1)⟩
theorem ev_intB (h : Ev ta σ H (.bl k)) : Ev (tCB rInt1 (tCons ta tNil)) σ H (.int (if k then 1 else 0)) := ev_cb (ea_cons h ea_nil) fun H1 _ Q q => .inr ⟨k, rfl, q H1 (Ex.refl H1)⟩
def rAbs : List V → Hp → VK → Prop := fun xs H Q => ∃ i, xs = [.int i] ∧ Q (.int (if i < 0 then -i else i)) H
theorem ev_abs (h : Ev ta σ H (.int i)) : Ev (tCB rAbs (tCons ta tNil)) σ H (.int (if i < 0 then -i else i)) := ev_cb (ea_cons h ea_nil) fun H1 _ Q q => ⟨i, rfl, q H1 (Ex.refl H1)⟩
theorem fin_mod {Q : VK} {x : Int} {m : Nat} (hm : 0 < m) (k : ∀ j : Nat, j < m → Q (.int (j : Int)) H) : Q (.int (x % (m : Int))) H := by
  have h0 : (0 : Int) ≤ x % (m : Int) := Int.emod_nonneg _ (by omega)
  have h1 : x % (m : Int) < (m : Int) := Int.emod_lt_of_pos _ (by omega)
  have h := k (x % (m : Int)).toNat (by omega)
  rw [Int.toNat_of_nonneg h0] at h
  exact h
theorem mul_bd {a b A B : Int} (h0 : 0 ≤ a) (h1 : a ≤ A) (h2 : 0 ≤ b) (h3 : b ≤ B) : 0 ≤ a * b ∧ a * b ≤ A * B :=
  ⟨Int.mul_nonneg h0 h2, Int.mul_le_mul h1 h3 h2 (Int.le_trans h0 h1)⟩
theorem powok {b : Int} {e : Int} (h0 : 0 ≤ e) (h1 : e ≤ 1000000) (h2 : 0 ≤ b) (h3 : b < 18446744073709551616) : CPow b e := ⟨h0, h1, by omega⟩
end
section
variable {P : Program} {w : World} {K : PySem.W.Frag} {mg : Str → Option Value} {base : Heap}
theorem ok_draw {f : Addr} {fd : FuncData} (F : Fun K "_law_draw" "_law_draw" sDraw f fd) (B : Bl mg) : FnOk P w K mg base CX0 1 f fd ["pen", "many"] spDraw := by
  refine F.ok scDraw (fun vs H Q E h => ?_) (fun cdv A outer s H vs Q E hr h => ?_)
  · obtain ⟨pen, m, T, rfl, _⟩ := h
    rfl
  · obtain ⟨pen, m, T, rfl, hm0, hm1, hP, hT, k⟩ := h
    have hu : (cxOf CX0 P w K mg base nDraw "_law_draw" (defScope sDraw) f cdv A outer s H E).nox.A.units < cLine := Nat.lt_of_le_of_lt (Nat.le_succ _) (hu_of hr)
    refine ⟨_, pss_cons (ps_if (pt_cmpR op_gt (pe_ix ix_seq (pv 0) pe_int (fun _ _ => rfl)) pe_int (nomark _))
        (pss_cons (ps_set (i := 2) scDraw.nd rfl (Or.inl rfl) (pe_callTy call_int1 (by rfl) B.int bInt (pa_cons (pe_ix ix_seq (pv 0) pe_int (fun _ _ => rfl)) pa_nil)))
          (pss_cons (ps_asg (pe_op op_fdiv (pv 2) (pv 1)) (pg_sub (pv 0) pe_int set_list))
            (pss_one (ps_ret (pe_op op_mod (pe_callTy call_int1 (by rfl) B.int bInt (pa_cons (pv 2) pa_nil)) (pv 1)))))) pss_nil)
      (pss_cons (ps_set (i := 3) scDraw.nd rfl (Or.inl rfl) (pe_ix ix_seq (pv 0) pe_int (fun _ _ => rfl)))
        (pss_cons (ps_asg (pe_op op_add (pv 3) pe_int) (pg_sub (pv 0) pe_int set_list))
          (pss_cons (ps_set (i := 4) scDraw.nd rfl (Or.inl rfl) (pe_op op_add (pe_op op_mul pe_int (pv 3)) pe_int))
            (pss_cons (ps_if (pt_cmpR (op_neE hu) (pe_ix ix_seq (pv 0) pe_int (fun _ _ => rfl)) (pe_lst pa_nil) (nomark _))
                (pss_one (ps_set (i := 4) scDraw.nd rfl (Or.inl rfl) (pe_ix ix_seq (pe_ix ix_seq (pv 0) pe_int (fun _ _ => rfl)) (pe_op op_mod (pe_callTy call_int1 (by rfl) B.int bInt (pa_cons (pv 3) pa_nil)) (pe_callB call_len (by rfl) B.len bLen (pa_cons (pe_ix ix_seq (pv 0) pe_int (fun _ _ => rfl)) pa_nil))) (fun _ _ => rfl)))) pss_nil)
              (pss_cons (ps_if (pw_and (pt_cmpR op_lt (pv 3) (pe_callB call_len (by rfl) B.len bLen (pa_cons (pe_ix ix_seq (pv 0) pe_int (fun _ _ => rfl)) pa_nil)) (nomark _))
                    (pw_and1 (pt_cmpR op_ge (pe_callB call_abs (by rfl) B.abs bAbs (pa_cons (pv 4) pa_nil)) (pe_op op_pow pe_int pe_int) (nomark _)))).pt
                  (pss_cons (ps_set (i := 2) scDraw.nd rfl (Or.inl rfl) (pe_op op_add (pe_op op_mul pe_int (pe_op op_sub (pe_callB call_abs (by rfl) B.abs bAbs (pa_cons (pv 4) pa_nil)) (pe_op op_pow pe_int pe_int))) (pe_callTy call_int1 (by rfl) B.int bInt (pa_cons (pe_cmpR op_lt (pv 4) pe_int (nomark _)) pa_nil))))
                    (pss_cons (ps_asg (pe_op op_fdiv (pe_callTy call_int1 (by rfl) B.int bInt (pa_cons (pv 2) pa_nil)) (pv 1)) (pg_sub (pv 0) pe_int set_list))
                      (pss_one (ps_ret (pe_op op_mod (pe_callTy call_int1 (by rfl) B.int bInt (pa_cons (pv 2) pa_nil)) (pv 1)))))) pss_nil)
                (pss_cons (ps_set (i := 5) scDraw.nd rfl (Or.inl rfl) (pe_op op_mod (pe_callTy call_int1 (by rfl) B.int bInt (pa_cons (pe_op op_pow (pe_op op_add (pe_op op_add (pe_op op_mod (pe_callTy call_int1 (by rfl) B.int bInt (pa_cons (pv 4) pa_nil)) pe_int) (pe_op op_mul pe_int (pv 3))) pe_int) pe_int) pa_nil)) pe_int))
                  (pss_cons (ps_set (i := 5) scDraw.nd rfl (Or.inl rfl) (pe_op op_mod (pe_callTy call_int1 (by rfl) B.int bInt (pa_cons (pe_op op_pow (pe_op op_add (pe_op op_add (pe_op op_mul (pv 5) (pe_op op_add (pe_op op_mul pe_int (pv 3)) pe_int)) (pe_op op_mul (pe_op op_mul pe_int (pv 3)) (pv 3))) pe_int) pe_int) pa_nil)) pe_int))
                    (pss_one (ps_ret (pe_op op_mod (pe_callTy call_int1 (by rfl) B.int bInt (pa_cons (pe_op op_fdiv (pv 5) pe_int) pa_nil)) (pv 1))))))))))), ?_⟩
    obtain ⟨c, cs, n, r, h1, h2, h3, h4⟩ := hP
    have hcp := pen_ne h1 h2
    have hmm : CDiv r (m : Int) := ⟨by omega, by omega⟩
    have fin : ∀ (x : Int) (n' : Nat) (r' : Int) (H1 H2 : Hp), n' ≤ T + 1 → ExP pen H H1 → H1 c = some (.lst (cs.map V.int)) → Ex (upd H1 pen (.lst [.ref c, .int (n' : Int), .int r'])) H2 → Q (.int (x % (m : Int))) H2 := fun x n' r' H1 H2 hn' e1 hc1 e2 =>
      fin_mod hm0 fun j hj => k j H2 hj ⟨fun a o ne ha => e2 _ _ (by rw [upd_ne ne]; exact e1.1 a o ne ha), fun c' r2 h' => by rw [h1] at h'; cases h'; exact ⟨_, e2 _ _ upd_same⟩⟩ ⟨c, cs, n', r', e2 _ _ upd_same, e2 _ _ (by rw [upd_ne hcp]; exact hc1), h3, hn'⟩
    refine q_when (b := decide (0 < r)) (et_test (ev_op (ev_op (ev_var rfl) ev_c (rv_ixQ (i := 2) (.inl (SqL.of h1)) rfl)) ev_c rv_I0)) (fun hb H1 e1 => ?_) (fun hb H1 e1 => ?_)
    · refine q_asg (ev_int (ev_op (ev_var rfl) ev_c (rv_ixQ (i := 2) (.inl (SqL.of (e1 _ _ h1))) rfl))) fun H2 e2 => ?_
      refine q_setL (j := 2) ((e1.trans e2) _ _ h1) (ev_op (ev_var rfl) (ev_var rfl) (rv_I hmm)) (ev_var rfl) ev_c (by simp) fun H3 e3 => ?_
      refine s_ret (ev_op (ev_int (ev_var rfl)) (ev_var rfl) (rv_I (show (0 : Int) < (m : Int) by omega))) fun H4 e4 => ?_
      exact fin r n _ H3 H4 (by omega) ((e1.trans e2).trans e3).toP (((e1.trans e2).trans e3) _ _ h2) e4
    · refine q_asg (ev_op (ev_var rfl) ev_c (rv_ixQ (i := 1) (.inl (SqL.of (e1 _ _ h1))) rfl)) fun H2 e2 => ?_
      refine q_setL (j := 1) (v := .int ((n + 1 : Nat) : Int)) ((e1.trans e2) _ _ h1) (ev_is (ev_op (ev_var rfl) ev_c rv_I0) (by push_cast; rfl)) (ev_var rfl) ev_c (by simp) fun H3 e3 => ?_
      have e03 := (e1.trans e2).trans e3
      have g1 : upd H3 pen (.lst ([V.ref c, .int (n : Int), .int r].set 1 (.int ((n + 1 : Nat) : Int)))) pen = some (.lst [.ref c, .int ((n + 1 : Nat) : Int), .int r]) := upd_same
      have g2 : upd H3 pen (.lst ([V.ref c, .int (n : Int), .int r].set 1 (.int ((n + 1 : Nat) : Int)))) c = some (.lst (cs.map V.int)) := by rw [upd_ne hcp]; exact e03 _ _ h2
      have g0 : ExP pen H (upd H3 pen (.lst ([V.ref c, .int (n : Int), .int r].set 1 (.int ((n + 1 : Nat) : Int))))) := ⟨fun a o ne ha => by rw [upd_ne ne]; exact e03 _ _ ha, fun c' r2 h' => by rw [h1] at h'; cases h'; exact ⟨_, g1⟩⟩
      generalize upd H3 pen (.lst ([V.ref c, .int (n : Int), .int r].set 1 (.int ((n + 1 : Nat) : Int)))) = H4 at g0 g1 g2
      refine q_asg (v := .int (52711 * (n : Int) + 9241)) (ev_op (ev_op ev_c (ev_var rfl) (rv_I (.inl ⟨by decide, by decide⟩))) ev_c rv_I0) fun H5 e5 => ?_
      refine q_ifAsg (b := !cs.isEmpty) (v := .int (cellV cs n)) (et_test (ev_is (ev_opL (xs := []) (ev_op (ev_var rfl) ev_c (rv_ixQ (i := 0) (v := .ref c) (.inl (SqL.of (e5 _ _ g1))) rfl)) (el_lst ea_nil (by decide)) fun p H6 hp e6 H7 e7 Q1 q1 => ⟨c, p, cs.map V.int, rfl, rfl, SqL.of ((e5.trans (e6.trans e7)) _ _ g2), SqL.of (e7 _ _ hp), q1 _ (Ex.refl _)⟩) (by rw [List.isEmpty_map]))) (fun hb => ?_) (fun hb => ?_) (fun H6 e6 => ?_)
      · have hl : 0 < cs.length := by
          cases cs with
          | nil => cases hb
          | cons _ _ => exact Nat.succ_pos _
        refine ev_op (ev_op (ev_var rfl) ev_c (rv_ixQ (i := 0) (v := .ref c) (.inl (SqL.of (e5 _ _ g1))) rfl)) (ev_is (w := .int ((n % cs.length : Nat) : Int)) (ev_op (ev_int (ev_var rfl)) (ev_lenV (xs := cs.map V.int) (ev_op (ev_var rfl) ev_c (rv_ixQ (i := 0) (v := .ref c) (.inl (SqL.of (e5 _ _ g1))) rfl)) (.inl (SqL.of (e5 _ _ g2)))) (rv_I (by rw [List.length_map]; exact Int.natCast_pos.mpr hl))) (by rw [List.length_map]; rfl)) (rv_ixQ (.inl (SqL.of (e5 _ _ g2))) ?_)
        have hlt := Nat.mod_lt n hl
        rw [List.getElem?_map, List.getElem?_eq_getElem hlt]
        unfold cellV
        rw [if_neg (by cases cs with | nil => cases hb | cons _ _ => simp), List.getD_eq_getElem?_getD, List.getElem?_eq_getElem hlt] <;> rfl
      · unfold cellV
        rw [if_pos (by cases cs with | nil => rfl | cons _ _ => cases hb)] <;> rfl
      · have hc0 : ∀ H', Ex H6 H' → SqL K H' pen [.ref c, .int ((n + 1 : Nat) : Int), .int r] := fun H' e => SqL.of (e _ _ ((e5.trans e6) _ _ g1))
        have e46 := e5.trans e6
        generalize cellV cs n = x
        refine q_when (b := decide ((n : Int) < ((cs.map V.int).length : Nat)) && decide ((10 : Int) ^ (18 : Int).toNat ≤ (if x < 0 then -x else x))) (et_and (et_test (ev_op (ev_var rfl) (ev_lenV (xs := cs.map V.int) (ev_op (ev_var rfl) ev_c (rv_ixQ (i := 0) (v := .ref c) (.inl (SqL.of (e46 _ _ g1))) rfl)) (.inl (SqL.of (e46 _ _ g2)))) rv_I0)) (fun _ => et_test (ev_op (ev_abs (ev_var rfl)) (ev_op ev_c ev_c (rv_I ⟨by decide, by decide, by decide⟩)) rv_I0))) (fun hb H7 e7 => ?_) (fun hb H7 e7 => ?_)
        · refine q_asg (ev_op (ev_op ev_c (ev_op (ev_abs (ev_var rfl)) (ev_op ev_c ev_c (rv_I ⟨by decide, by decide, by decide⟩)) rv_I0) (rv_I (.inl ⟨by decide, by decide⟩))) (ev_intB (ev_op (ev_var rfl) ev_c rv_I0)) rv_I0) fun H8 e8 => ?_
          generalize 2 * ((if x < 0 then -x else x) - (10 : Int) ^ (18 : Int).toNat) + (if decide (x < 0) = true then 1 else 0) = y
          refine q_setL (j := 2) (((e46.trans e7).trans e8) _ _ g1) (ev_op (ev_int (ev_var rfl)) (ev_var rfl) (rv_I (show CDiv y (m : Int) from ⟨by omega, by omega⟩))) (ev_var rfl) ev_c (by simp) fun H9 e9 => ?_
          have e49 := ((e46.trans e7).trans e8).trans e9
          refine s_ret (ev_op (ev_int (ev_var rfl)) (ev_var rfl) (rv_I (show (0 : Int) < (m : Int) by omega))) fun H10 e10 => ?_
          exact fin y (n + 1) _ H9 H10 (by omega) (g0.trans e49.toP) (e49 _ _ g2) e10
        · have hn : (n : Int) ≤ 1000000 := by omega
          have b1 : 0 ≤ x % 2147483549 + 52711 * (n : Int) + 9241 ∧ x % 2147483549 + 52711 * (n : Int) + 9241 < 18446744073709551616 := by omega
          refine q_asg (ev_op (ev_int (ev_op (ev_op (ev_op (ev_op (ev_int (ev_var rfl)) ev_c (rv_I (by decide))) (ev_op ev_c (ev_var rfl) (rv_I (.inl ⟨by decide, by decide⟩))) rv_I0) ev_c rv_I0) ev_c (rv_I (powok (by decide) (by decide) b1.1 b1.2)))) ev_c (rv_I (by decide))) fun H8 e8 => ?_
          generalize hM : (x % 2147483549 + 52711 * (n : Int) + 9241) ^ (5 : Int).toNat % 2147483629 = M
          have hM0 : 0 ≤ M ∧ M ≤ 2147483629 := by omega
          have b2 := mul_bd (A := 2147483629) (B := 2006007) hM0.1 hM0.2 (show (0 : Int) ≤ 2 * (n : Int) + 6007 by omega) (by omega)
          have b3 := mul_bd (A := 41011000000) (B := 1000000) (show (0 : Int) ≤ 41011 * (n : Int) by omega) (by omega) (show (0 : Int) ≤ (n : Int) by omega) hn
          have b4 : 0 ≤ M * (2 * (n : Int) + 6007) + 41011 * (n : Int) * (n : Int) + 52711 ∧ M * (2 * (n : Int) + 6007) + 41011 * (n : Int) * (n : Int) + 52711 < 18446744073709551616 := by omega
          refine q_asg (ev_op (ev_int (ev_op (ev_op (ev_op (ev_op (ev_var rfl) (ev_op (ev_op ev_c (ev_var rfl) (rv_I (.inl ⟨by decide, by decide⟩))) ev_c rv_I0) (rv_I (.inl ⟨by omega, by omega⟩))) (ev_op (ev_op ev_c (ev_var rfl) (rv_I (.inl ⟨by decide, by decide⟩))) (ev_var rfl) (rv_I (.inr ⟨by omega, by omega⟩))) rv_I0) ev_c rv_I0) ev_c (rv_I (powok (by decide) (by decide) b4.1 b4.2)))) ev_c (rv_I (by decide))) fun H9 e9 => ?_
          refine s_ret (ev_op (ev_int (ev_op (ev_var rfl) ev_c (rv_I ⟨by decide, by decide⟩))) (ev_var rfl) (rv_I (show (0 : Int) < (m : Int) by omega))) fun H10 e10 => ?_
          have e410 := (((e46.trans e7).trans e8).trans e9).trans e10
          exact fin_mod hm0 fun j hj => k j H10 hj (g0.trans e410.toP) ⟨c, cs, n + 1, r, e410 _ _ g1, e410 _ _ g2, h3, by omega⟩
end
end K2
set_option Elab.async false
set_option linter.all false
set_option maxRecDepth 100000
set_option maxHeartbeats 4000000
namespace K2
open PySem L2 Evl
/-- the heap without the pen -/
def noP (pen : Addr) (H : Hp) : Hp := fun a => if a = pen then none else H a
theorem noP_at {pen a : Addr} {H : Hp} (n : a ≠ pen) : noP pen H a = H a := if_neg n
theorem noP_pen {pen : Addr} {H : Hp} : noP pen H pen = none := if_pos rfl
theorem noP_ex (pen : Addr) (H : Hp) : Ex (noP pen H) H := fun a o h => by
  by_cases e : a = pen
  · rw [e, noP_pen] at h
    cases h
  · rw [noP_at e] at h
    exact h
theorem ExP.no {pen : Addr} {H H' : Hp} (e : ExP pen H H') : Ex (noP pen H) (noP pen H') := fun a o h => by
  by_cases n : a = pen
  · rw [n, noP_pen] at h
    cases h
  · rw [noP_at n] at h ⊢
    exact e.1 a o n h
theorem ExP.ex {pen : Addr} {H H' : Hp} (e : ExP pen H H') : Ex (noP pen H) H' := e.no.trans (noP_ex pen H')
theorem noP_none {pen a : Addr} {H : Hp} (h : H a = none) : noP pen H a = none := by
  by_cases n : a = pen
  · rw [n, noP_pen]
  · rw [noP_at n]
    exact h
theorem PenS.ne {pen : Addr} {T : Nat} {H : Hp} (h : PenS pen T H) {p : Addr} (hp : H p = none) : p ≠ pen := by
  obtain ⟨c, cs, n, r, h1, _⟩ := h
  intro z
  rw [z, h1] at hp
  cases hp
section
variable {K : PySem.W.Frag} {σ : L2.St} {H : Hp} {te tl : TE} {t : TT} {vs : List Nat} {j : Nat}
/-- [e for y in new list if t] -/
theorem el_lcAN {xs : List V} (p : V → Bool) (g : V → V) (h : EvL tl σ H xs) (hz : xs.length ≤ 40000) (hw : ∀ x, wipe ((wipe σ vs).set j (some x)) vs = wipe σ vs)
    (ht : ∀ (x : V) H1, Ex H H1 → x ∈ xs → EvT t ((wipe σ vs).set j (some x)) H1 (p x)) (he : ∀ (x : V) H1, Ex H H1 → x ∈ xs → p x = true → Ev te ((wipe σ vs).set j (some x)) H1 (g x)) :
    EvL (tLc (iList K tl) (gName j) t te vs) σ H ((xs.filter p).map g) := by
  obtain ⟨f, hf⟩ : ∃ f : Nat → Bool, ∀ i c, xs[i]? = some c → f i = p c := ⟨fun i => match xs[i]? with | some c => p c | none => false, fun i c e => by simp only [e]⟩
  obtain ⟨v, hv⟩ : ∃ v : Nat → V, ∀ i c, xs[i]? = some c → v i = g c := ⟨fun i => match xs[i]? with | some c => g c | none => .non, fun i c e => by simp only [e]⟩
  rw [← given_list xs p g hf hv]
  refine el_lcNL f v h hz hw (fun i x H1 e hi => et_is (ht x H1 e (List.mem_of_getElem? hi)) (hf i x hi).symm) fun i x H1 e hi hp => ?_
  rw [hv i x hi]
  exact he x H1 e (List.mem_of_getElem? hi) (by rw [← hf i x hi]; exact hp)
end
theorem s_pen {σ : L2.St} {H : Hp} {te : TE} {xs : List V} {D : Ends} {a b : V} (h : EvL te σ H xs) (k : ∀ c p H1 H2, H c = none → H p = none → Ex H H1 → H2 c = some (.lst xs) → Ex H H2 → H2 p = some (.lst [.ref c, a, b]) → D.rt (.ref p) H2) : tRet (tLst (tCons te (tCons (tC a) (tCons (tC b) tNil)))) D σ H :=
  h H (Ex.refl H) _ fun c H1 hc e1 h1 => ⟨(by show 3 ≤ sizeLine; decide), fun pen hp => k c pen H1 _ hc (fresh_back e1 hp) e1 (Ex.new hp _ _ h1) (e1.trans (Ex.new hp)) upd_same⟩
def spPick (K : PySem.W.Frag) : Sp := fun vs H Q _ => ∃ (pen a : Addr) (xs : List V) (T : Nat), vs = [.ref pen, .ref a] ∧ SqL K (noP pen H) a xs ∧ 0 < xs.length ∧ xs.length < 1000 ∧ PenS pen T H ∧ T < 1000000 ∧ ∀ (i : Nat) (x : V) H', xs[i]? = some x → ExP pen H H' → PenS pen (T + 1) H' → Q x H'
theorem scPick : FnScope ["pen", "some"] ["pen", "some"] (defScope sPick) := ⟨rfl, rfl, rfl, by decide +kernel, rfl, by decide +kernel, by decide +kernel⟩
section
variable {P : Program} {w : World} {K : PySem.W.Frag} {mg : Str → Option Value} {base : Heap}
theorem ok_pick {f : Addr} {fd : FuncData} (F : Fun K "_law_pick" "_law_pick" sPick f fd) (B : Bl mg) (D : Cal P w K mg base CX0 1 "_law_draw" ["pen", "many"] spDraw) : FnOk P w K mg base CX0 2 f fd ["pen", "some"] (spPick K) := by
  obtain ⟨fn, fdn, Fn, mn, kn, bn⟩ := D.ex
  refine F.ok scPick (fun vs H Q E h => ?_) (fun cdv A outer s H vs Q E hr h => ?_)
  · obtain ⟨pen, a, xs, T, rfl, _⟩ := h
    rfl
  · obtain ⟨pen, a, xs, T, rfl, ha, h0, h1, hP, hT, k⟩ := h
    refine ⟨_, pss_one (ps_ret (pe_ix ix_seq (pv 1) (pe_call Fn hr (by rfl) mn kn bn .nil pass0 (pa_cons (pv 0) (pa_cons (pe_callB call_len (by rfl) B.len bLen (pa_cons (pv 1) pa_nil)) pa_nil))) (fun _ _ => rfl))), ?_⟩
    refine ⟨.ref a, rfl, .ref pen, rfl, .ref a, rfl, .ref a, xs.length, rfl, lenV_sq (.inl (ex_l (noP_ex pen H) ha)), pen, xs.length, T, rfl, h0, by omega, hP, hT, fun j H' hj e hP' => ?_⟩
    exact ix_sq (.inl (ex_l e.ex ha)) (List.getElem?_eq_getElem hj) (k j _ H' (List.getElem?_eq_getElem hj) e hP')
theorem ok_pen {f : Addr} {fd : FuncData} (F : Fun K "_law_pen" "_law_pen" sPen f fd) (B : Bl mg) : FnOk P w K mg base CX0 1 f fd ["script"] (spPen K) := by
  refine F.ok scPen (fun vs H Q E h => ?_) (fun cdv A outer s H vs Q E hr h => ?_)
  · obtain ⟨a, ns, rfl, _⟩ := h
    rfl
  · obtain ⟨a, ns, rfl, ha, hn, k⟩ := h
    refine ⟨_, pss_one (ps_ret (pe_lst (pa_cons (pe_lc (own := [("cell", 1)]) (g := gName 1) (tt := tYes) (te := tCB rInt1 (tCons (tVar 1) tNil)) rfl scPen.nd (pi_list (pe_slice sl_list (pv 0) po_none (po_some pe_int))) (blkOk_by (N := ["script", "cell"]) (sc := defScope sPen) (by decide +kernel))
      (fun _ _ _ _ _ => pg_name (i := 1) scPen.nd rfl (Or.inl rfl)) (fun _ _ _ _ _ => pts_nil) (fun _ _ _ _ _ => pe_callTy call_int1 (by rfl) B.int bInt (pa_cons (pv 1) pa_nil))) (pa_cons pe_int (pa_cons pe_int pa_nil))))), ?_⟩
    have hcl := cutV_length (ns.map V.int) none (some 63)
    rw [List.length_map] at hcl
    obtain ⟨cs, hcs, hcl2⟩ : ∃ cs : List Int, cutV (ns.map V.int) none (some 63) = cs.map V.int ∧ cs.length ≤ 63 := by
      refine ⟨(ns.drop (HT.sIx (ns.map V.int).length 0 none)).take (HT.sIx (ns.map V.int).length (ns.map V.int).length (some 63) - HT.sIx (ns.map V.int).length 0 none), ?_, ?_⟩
      · unfold cutV
        rw [← List.map_drop, ← List.map_take]
      · rw [List.length_take, List.length_drop]
        omega
    have hl := el_lcAN (K := K) (σ := [some (.ref a), none]) (H := H) (te := tCB rInt1 (tCons (tVar 1) tNil)) (tl := tSl (rSlL K) (tVar 0) tNoPart (tPart (tC (.int 63)))) (t := tYes) (vs := [1]) (j := 1) (xs := cutV (ns.map V.int) none (some 63)) (fun _ => true) id
      (el_sl (ev_var rfl) (eo_none) (eo_some ev_c) ha) (by omega) (fun _ => rfl) (fun _ _ _ _ => et_yes) (fun x H1 e hx _ => by
        rw [hcs] at hx
        obtain ⟨i, _, rfl⟩ := List.mem_map.mp hx
        exact ev_int (ev_var rfl))
    rw [List.filter_eq_self.mpr (fun _ _ => rfl), List.map_id, hcs] at hl
    exact s_pen hl fun c pen H1 H2 hc hp e1 h1 e2 h2 => k pen H2 hp e2 ⟨c, cs, 0, 0, h2, h1, hcl2, Nat.zero_le _⟩
end
end K2
set_option Elab.async false
set_option linter.all false
set_option maxRecDepth 100000
set_option maxHeartbeats 4000000
namespace K2
open PySem L2 Evl XcH LamX
/-! ### a list of new tuples -/
inductive Tups (H : Hp) : List Addr → List (List V) → Prop
  | nil : Tups H [] []
  | cons {p : Addr} {xs : List V} {ps : List Addr} {xss : List (List V)} : H p = some (.tup xs) → Tups H ps xss → Tups H (p :: ps) (xs :: xss)
theorem Tups.ex {H H' : Hp} (e : Ex H H') {ps : List Addr} {xss : List (List V)} (h : Tups H ps xss) : Tups H' ps xss := by
  induction h with
  | nil => exact .nil
  | cons h1 _ ih => exact .cons (e _ _ h1) ih
theorem Tups.len {H : Hp} {ps : List Addr} {xss : List (List V)} (h : Tups H ps xss) : ps.length = xss.length := by
  induction h with
  | nil => rfl
  | cons h1 _ ih => rw [List.length_cons, List.length_cons, ih]
theorem Tups.append {H : Hp} {ps qs : List Addr} {xss yss : List (List V)} (h : Tups H ps xss) (h' : Tups H qs yss) : Tups H (ps ++ qs) (xss ++ yss) := by
  induction h with
  | nil => exact h'
  | cons h1 _ ih => exact .cons h1 ih
theorem Tups.get {H : Hp} {ps : List Addr} {xss : List (List V)} (h : Tups H ps xss) : ∀ {i : Nat} {v : V}, (ps.map V.ref)[i]? = some v → ∃ p xs, v = .ref p ∧ xss[i]? = some xs ∧ H p = some (.tup xs) := by
  induction h with
  | nil => intro i v hi; simp at hi
  | cons h1 _ ih =>
    intro i v hi
    cases i with
    | zero =>
      simp at hi
      exact ⟨_, _, hi.symm, rfl, h1⟩
    | succ i =>
      rw [List.map_cons, List.getElem?_cons_succ] at hi
      obtain ⟨p, xs, h2, h3, h4⟩ := ih hi
      exact ⟨p, xs, h2, by rw [List.getElem?_cons_succ]; exact h3, h4⟩
def EvUs (ta : TA) (σ : L2.St) (H : Hp) (xss : List (List V)) : Prop := ∀ H1, Ex H H1 → ∀ Q : List V → Hp → Prop, (∀ ps H2, Ex H1 H2 → Tups H2 ps xss → Q (ps.map V.ref) H2) → ta σ H1 Q
theorem eus_nil {σ : L2.St} {H : Hp} : EvUs tNil σ H [] := fun H1 _ Q q => q [] H1 (Ex.refl H1) .nil
theorem eus_cons {te : TE} {ta : TA} {σ : L2.St} {H : Hp} {xs : List V} {xss : List (List V)} (h : EvU te σ H xs) (hr : EvUs ta σ H xss) : EvUs (tCons te ta) σ H (xs :: xss) := fun H1 e Q q =>
  h H1 e _ fun p H2 _ e2 hp => hr H2 (e.trans e2) _ fun ps H3 e3 h3 => q (p :: ps) H3 (e2.trans e3) (.cons (e3 _ _ hp) h3)
/-! ### _law_heard -/
abbrev sHr : Stmt := top 53
def nHr : List Str := ["ask", "caught", "found", "error", "some", "words", "word", "is_one"]
theorem scHr : FnScope nHr ["ask"] (defScope sHr) := ⟨rfl, rfl, rfl, by decide +kernel, rfl, by decide +kernel, by decide +kernel⟩
/-- what the written part says of BadStatement -/
structure HrC (K : PySem.W.Frag) (mg : Str → Option Value) (C : Addr) : Prop where
  all : ∃ CA, mg "AllError" = some (.ref CA) ∧ PySem.W.exmOne K (.ref C) (.ref CA) = some true
  c0 : ∃ c, mg "BadStatement" = some (.ref c) ∧ PySem.W.kitOne K (.ref C) (.ref c) = some true
  c1 : ∃ c, mg "BadSheet" = some (.ref c) ∧ PySem.W.kitOne K (.ref C) (.ref c) = some false
  c2 : ∃ c, mg "BadWay" = some (.ref c) ∧ PySem.W.kitOne K (.ref C) (.ref c) = some false
  c3 : ∃ c, mg "BadCode" = some (.ref c) ∧ PySem.W.kitOne K (.ref C) (.ref c) = some false
  c4 : ∃ c, mg "BadValue" = some (.ref c) ∧ PySem.W.kitOne K (.ref C) (.ref c) = some false
  c5 : ∃ c, mg "BadNumber" = some (.ref c) ∧ PySem.W.kitOne K (.ref C) (.ref c) = some false
  c6 : ∃ c, mg "BadPaper" = some (.ref c) ∧ PySem.W.kitOne K (.ref C) (.ref c) = some false
  c7 : ∃ c, mg "BadField" = some (.ref c) ∧ PySem.W.kitOne K (.ref C) (.ref c) = some false
  c8 : ∃ c, mg "Misfit" = some (.ref c) ∧ PySem.W.kitOne K (.ref C) (.ref c) = some false
  ec : ExcC K C
  xf : XfC K C
  noP : PySem.W.findIn K (.ref C) "part" = some none
/-- heard -/
def TTh (C : Addr) : (XK → Hp → VK → Prop) → Hp → VK → Prop := fun tl H Q => ∀ H0, Ex H H0 → ∀ (Ech : XK) (R : VK),
  (∀ dx H', H' dx = some (.xd [("part", .str "statement")]) → (∀ p H'', Ex H' H'' → H'' p = some (.tup [.str "statement", .str "statement"]) → Q (.ref p) H'') → Ech (.ref C) (some dx) H') →
  (∀ v H', (∀ p H'', Ex H' H'' → H'' p = some (.lst [v]) → Q (.ref p) H'') → R v H') → tl Ech H0 R
def names9 : List Str := ["statement", "sheet", "way", "code", "value", "number", "paper", "library", "misfit"]
section
variable {K : PySem.W.Frag} {σ : L2.St} {H : Hp} {a C dx : Addr} {fs : List (Str × V)}
theorem eu_is {te : TE} {c : Addr} {n : Str} {b : Bool} (hσ : Ev te σ H (.ref a)) (ha : H a = some (ExT (.ref C) (some dx) a)) (hd : H dx = some (.xd fs)) (hc : ExcC K C) (hk : PySem.W.kitOne K (.ref C) (.ref c) = some b) :
    EvU (tTup (tCons (tC (.str n)) (tCons (tCB (rIsX K) (tCons te (tCons (tC (.ref c)) tNil))) tNil))) σ H [.str n, .bl b] :=
  eu_tup (ea_cons ev_c (ea_cons (ev_cb (ea_cons hσ (ea_cons ev_c ea_nil)) fun H1 e1 Q q => ⟨a, C, dx, fs, .ref c, .ref c, b, rfl, e1 _ _ ha, e1 _ _ hd, hc, fun u hu => hu, hk, q H1 (Ex.refl H1)⟩) ea_nil)) (by show 2 ≤ 100000; decide)
end
theorem q_asgUs {σ : L2.St} {H : Hp} {ta : TA} {xss : List (List V)} {i : Nat} {tz : TS} {D : Ends} (h : EvUs ta σ H xss) (hz : xss.length ≤ 1000) (k : ∀ l ps H1, Ex H H1 → H1 l = some (.lst (ps.map V.ref)) → Tups H1 ps xss → tz D (σ.set i (some (.ref l))) H1) :
    tSeq (tAsg (tLst ta) (gName i)) tz D σ H := h H (Ex.refl H) _ fun ps H1 e1 h1 => ⟨Nat.le_of_lt (sz1000 (by rw [List.length_map, h1.len]; omega)), fun l hl => k l ps _ (e1.trans (Ex.new hl)) upd_same (h1.ex (Ex.new hl))⟩
theorem q_catUs {σ : L2.St} {H : Hp} {ta : TA} {xss yss : List (List V)} {i j : Nat} {tz : TS} {D : Ends} {l : Addr} {ps : List Addr} (hj : σ[j]? = some (some (.ref l))) (hl : H l = some (.lst (ps.map V.ref))) (hp : Tups H ps xss) (h : EvUs ta σ H yss) (hz : xss.length ≤ 500) (hz2 : yss.length ≤ 500)
    (k : ∀ l ps H1, Ex H H1 → H1 l = some (.lst (ps.map V.ref)) → Tups H1 ps (xss ++ yss) → tz D (σ.set i (some (.ref l))) H1) :
    tSeq (tAsg (tOp rCat (tVar j) (tLst ta)) (gName i)) tz D σ H := ⟨.ref l, hj, h H (Ex.refl H) _ fun qs H1 e1 h1 => ⟨Nat.le_of_lt (sz1000 (by rw [List.length_map, h1.len]; omega)), fun l2 hl2 =>
      ⟨l, l2, ps.map V.ref, qs.map V.ref, rfl, rfl, Ex.new hl2 _ _ (e1 _ _ hl), upd_same, Nat.le_of_lt (sz1000 (by rw [List.length_map, List.length_map, h1.len, hp.len]; omega)), fun l3 hl3 =>
        k l3 (ps ++ qs) _ ((e1.trans (Ex.new hl2)).trans (Ex.new hl3)) (by rw [List.map_append]; exact upd_same) (((hp.ex e1).append h1).ex ((Ex.new hl2).trans (Ex.new hl3)))⟩⟩⟩
theorem el_names {K : PySem.W.Frag} {H : Hp} {l : Addr} {ps : List Addr} {s0 s1 s2 s3 s5 s6 s7 : Option V} {rows : List (Str × Bool)} (hl : H l = some (.lst (ps.map V.ref))) (ht : Tups H ps (rows.map fun r => [V.str r.1, V.bl r.2])) (hz : rows.length ≤ 1000) :
    EvL (tLc (iList K (tVar 4)) (gTup K 2 (gCons (gName 6) (gCons (gName 7) gNil))) (tB (tVar 7)) (tVar 6) [6, 7]) [s0, s1, s2, s3, some (.ref l), s5, s6, s7] H (given rows.length (fun i => ((rows[i]?).map (·.2)).getD false) (fun i => V.str (((rows[i]?).map (·.1)).getD ""))) := by
  intro H1 e1 Q q
  have hpl : ps.length = rows.length := by rw [ht.len, List.length_map]
  refine ⟨.ref l, rfl, l, rfl, ⟨ps.map V.ref, SqL.of (e1 _ _ hl)⟩, fun Dl hD => ?_⟩
  refine lc_list (xs := ps.map V.ref) (Cw H1 (fun i => ((rows[i]?).map (·.2)).getD false) (fun i => V.str (((rows[i]?).map (·.1)).getD "")) Dl) ⟨hD, Ex.new hD, upd_same⟩ (fun i H' _ p => SqL.of (p.2.1 _ _ (e1 _ _ hl))) (fun i x H' hi p => ?_) (fun H' p => ?_)
  · obtain ⟨pp, xs, rfl, hxs, hpp⟩ := ht.get hi
    rw [List.getElem?_map] at hxs
    cases hr : rows[i]? with
    | none => rw [hr] at hxs; cases hxs
    | some r =>
      rw [hr] at hxs
      obtain rfl : [V.str r.1, V.bl r.2] = xs := Option.some.inj hxs
      have hlt := (List.getElem?_eq_some_iff.mp hr).1
      refine ⟨pp, _, rfl, SqT.of (p.2.1 _ _ (e1 _ _ hpp)), rfl, _, _, rfl, _, _, rfl, rfl, rfl, cw_turn p (by omega) (et_is (et_B (b := r.2) (ev_var rfl)) ?_) (fun hf => ev_is (ev_var (v := .str r.1) rfl) ?_)⟩
      · rw [hr] <;> rfl
      · rw [hr] <;> rfl
  · have h3 := p.2.2
    rw [List.length_map, hpl] at h3
    exact q Dl H' hD p.2.1 h3
theorem heard_gives {X : Cx} {C g : Addr} {cdg : Value} {q : Str} (hR : Room 2 X.A) (B : Bl X.mg) (Hc : HrC X.K X.mg C) : GivesTo X nHr "_law_heard" (defScope sHr) g cdg (defBody sHr) "ask" q (TTh C) := by
  intro f c' s H Q tl act hc h
  obtain ⟨CA, hA, hAx⟩ := Hc.all
  obtain ⟨C0, h0, k0⟩ := Hc.c0
  obtain ⟨C1, h1, k1⟩ := Hc.c1
  obtain ⟨C2, h2, k2⟩ := Hc.c2
  obtain ⟨C3, h3, k3⟩ := Hc.c3
  obtain ⟨C4, h4, k4⟩ := Hc.c4
  obtain ⟨C5, h5, k5⟩ := Hc.c5
  obtain ⟨C6, h6, k6⟩ := Hc.c6
  obtain ⟨C7, h7, k7⟩ := Hc.c7
  obtain ⟨C8', h8, k8⟩ := Hc.c8
  have hu : (cxOf C8.CX0 X.prog X.w X.K X.mg X.base nHr "_law_heard" (defScope sHr) g cdg X.A X.stack s H C8.E0).nox.A.units < cLine := Nat.lt_of_le_of_lt (Nat.le_succ _) (hu_of (hR.deeper _))
  refine ⟨_, pss_cons (ps_asg (pe_tup (pa_cons pe_non (pa_cons pe_non pa_nil))) (pg_tup rfl (pgs_cons (pg_name (i := 1) scHr.nd rfl (Or.inl rfl)) (pgs_cons (pg_name (i := 2) scHr.nd rfl (Or.inl rfl)) pgs_nil))))
    (pss_cons (ps_try_kept (X := (cxOf C8.CX0 X.prog X.w X.K X.mg X.base nHr "_law_heard" (defScope sHr) g cdg X.A X.stack s H C8.E0).nox) (i := 3) (c := .ref CA) (Wout := fun _ _ _ _ => False) (ts := fun _ _ _ => tAsg (tVar 3) (gName 1))
        (tb := fun W D σ H => ∃ Ech : XK, (∀ cls d σ' H', Ech cls d H' → W cls d σ' H') ∧ σ[0]? = some (some (.ref f)) ∧ H c' = some (CodeO c' q) ∧ tl Ech H fun v H1 => D.nx (σ.set 2 (some v)) H1)
        rfl rfl rfl scHr.nd rfl rfl ⟨rfl, by decide, .inl hA⟩ LamX.takes0 (fun W pn xe tk _ => ?_) (fun a oe cls d pn _ _ => pss_one (ps_set (i := 1) scHr.nd rfl (Or.inl rfl) (pv 3))))
      (pss_cons (ps_if (pt_cmp (pc_isN (pv 1))) (pss_one (ps_ret (pe_lst (pa_cons (pv 2) pa_nil)))) pss_nil)
        (pss_cons (ps_set (i := 4) scHr.nd rfl (Or.inl rfl) (pe_lst
            (pa_cons (pe_tup (pa_cons pe_str (pa_cons (pe_callB call_isX (by rfl) B.isi bIsi (pa_cons (pv 1) (pa_cons (pe_glob (v := .ref C0) (by rfl) h0 rfl) pa_nil))) pa_nil)))
            (pa_cons (pe_tup (pa_cons pe_str (pa_cons (pe_callB call_isX (by rfl) B.isi bIsi (pa_cons (pv 1) (pa_cons (pe_glob (v := .ref C1) (by rfl) h1 rfl) pa_nil))) pa_nil)))
            (pa_cons (pe_tup (pa_cons pe_str (pa_cons (pe_callB call_isX (by rfl) B.isi bIsi (pa_cons (pv 1) (pa_cons (pe_glob (v := .ref C2) (by rfl) h2 rfl) pa_nil))) pa_nil)))
            (pa_cons (pe_tup (pa_cons pe_str (pa_cons (pe_callB call_isX (by rfl) B.isi bIsi (pa_cons (pv 1) (pa_cons (pe_glob (v := .ref C3) (by rfl) h3 rfl) pa_nil))) pa_nil))) pa_nil))))))
          (pss_cons (ps_set (i := 4) scHr.nd rfl (Or.inl rfl) (pe_op op_cat (pv 4) (pe_lst
              (pa_cons (pe_tup (pa_cons pe_str (pa_cons (pe_callB call_isX (by rfl) B.isi bIsi (pa_cons (pv 1) (pa_cons (pe_glob (v := .ref C4) (by rfl) h4 rfl) pa_nil))) pa_nil)))
              (pa_cons (pe_tup (pa_cons pe_str (pa_cons (pe_callB call_isX (by rfl) B.isi bIsi (pa_cons (pv 1) (pa_cons (pe_glob (v := .ref C5) (by rfl) h5 rfl) pa_nil))) pa_nil)))
              (pa_cons (pe_tup (pa_cons pe_str (pa_cons (pe_callB call_isX (by rfl) B.isi bIsi (pa_cons (pv 1) (pa_cons (pe_glob (v := .ref C6) (by rfl) h6 rfl) pa_nil))) pa_nil)))
              (pa_cons (pe_tup (pa_cons pe_str (pa_cons (pe_callB call_isX (by rfl) B.isi bIsi (pa_cons (pv 1) (pa_cons (pe_glob (v := .ref C7) (by rfl) h7 rfl) pa_nil))) pa_nil)))
              (pa_cons (pe_tup (pa_cons pe_str (pa_cons (pe_callB call_isX (by rfl) B.isi bIsi (pa_cons (pv 1) (pa_cons (pe_glob (v := .ref C8') (by rfl) h8 rfl) pa_nil))) pa_nil))) pa_nil))))))))
            (pss_cons (ps_setLc (i := 5) (own := [("word", 6), ("is_one", 7)]) (g := gTup X.K 2 (gCons (gName 6) (gCons (gName 7) gNil))) (tt := tB (tVar 7)) (te := tVar 6) rfl scHr.nd rfl rfl (sw_true rfl rfl rfl (by decide +kernel)) (pi_list (pv 4)) (blkOk_by (N := nHr) (sc := defScope sHr) (by decide +kernel))
                (fun _ _ _ _ _ => pg_tup rfl (pgs_cons (pg_name (i := 6) scHr.nd rfl (Or.inl rfl)) (pgs_cons (pg_name (i := 7) scHr.nd rfl (Or.inl rfl)) pgs_nil))) (fun _ _ _ _ _ => pts_one (pt_val (pv 7))) (fun _ _ _ _ _ => pv 6))
              (pss_cons (ps_if (pt_cmpR (op_neE hu) (pv 5) (pe_lst pa_nil) (nomark _)) (pss_one (ps_ret (pe_tup (pa_cons (pe_ix ix_seq (pv 5) pe_int (fun _ _ => rfl)) (pa_cons (pe_xg (pv 1)) pa_nil))))) pss_nil)
                (⟨fun _ _ _ _ _ _ z => z.elim⟩ : PSs _ _ fun _ _ _ => False))))))), ?_⟩
  · refine ⟨fun pins s' σ H' D I h' => ?_⟩
    obtain ⟨Ech, hW, g1, g2, g3⟩ := h'
    have hp := fun p1 p2 => act W pn xe Ech p1 p2 tk hW
    exact (pss_one (ps_set (i := 2) scHr.nd rfl (Or.inl rfl) (hp _ _))).run pins s' σ H' D I ⟨g1, g2, g3⟩
  · refine ⟨(by show 2 ≤ sizeLine; decide), fun p hp => ⟨p, _, rfl, SqT.of upd_same, rfl, .non, _, rfl, .non, _, rfl, rfl, ?_⟩⟩
    refine ⟨fun cls d H' => cls = .ref C ∧ ∃ dx, d = some dx ∧ H' dx = some (.xd [("part", .str "statement")]) ∧ ∀ p H'', Ex H' H'' → H'' p = some (.tup [.str "statement", .str "statement"]) → Q (.ref p) H'', ?_, rfl, Ex.new hp _ _ hc, h _ (Ex.new hp) _ _ (fun dx H' h1 h2 => ⟨rfl, dx, rfl, h1, h2⟩) (fun v H' hv => ?_)⟩
    · rintro cls d σ' H' ⟨rfl, dx, rfl, hdx, hQ⟩ hlen
      refine ⟨true, hAx, fun _ a ha => ?_, fun z => nomatch z⟩
      obtain ⟨s0, s1, s2, s3, s4, s5, s6, s7, rfl⟩ : ∃ s0 s1 s2 s3 s4 s5 s6 s7, σ' = [s0, s1, s2, s3, s4, s5, s6, s7] := by
        match σ', hlen with
        | [s0, s1, s2, s3, s4, s5, s6, s7], _ => exact ⟨s0, s1, s2, s3, s4, s5, s6, s7, rfl⟩
      refine ⟨.ref a, rfl, .ref a, rfl, _, rfl, ?_⟩
      rw [decide_eq_false (fun z => nomatch z)]
      have e0 : Ex H' (upd H' a (ExT (.ref C) (some dx) a)) := Ex.new ha
      have ga : upd H' a (ExT (.ref C) (some dx) a) a = some (ExT (.ref C) (some dx) a) := upd_same
      have gd := e0 _ _ hdx
      generalize upd H' a (ExT (.ref C) (some dx) a) = H1 at e0 ga gd
      refine iteF (q_asgUs (eus_cons (eu_is (ev_var rfl) ga gd Hc.ec k0) (eus_cons (eu_is (ev_var rfl) ga gd Hc.ec k1) (eus_cons (eu_is (ev_var rfl) ga gd Hc.ec k2) (eus_cons (eu_is (ev_var rfl) ga gd Hc.ec k3) eus_nil)))) (by simp) fun l ps H2 e2 hl hps => ?_)
      have ga2 := e2 _ _ ga
      have gd2 := e2 _ _ gd
      refine q_catUs (j := 4) rfl hl hps (eus_cons (eu_is (ev_var rfl) ga2 gd2 Hc.ec k4) (eus_cons (eu_is (ev_var rfl) ga2 gd2 Hc.ec k5) (eus_cons (eu_is (ev_var rfl) ga2 gd2 Hc.ec k6) (eus_cons (eu_is (ev_var rfl) ga2 gd2 Hc.ec k7) (eus_cons (eu_is (ev_var rfl) ga2 gd2 Hc.ec k8) eus_nil))))) (by simp) (by simp) fun l3 ps3 H3 e3 hl3 hps3 => ?_
      refine q_asgL (xs := [.str "statement"]) (el_names (rows := [("statement", true), ("sheet", false), ("way", false), ("code", false), ("value", false), ("number", false), ("paper", false), ("library", false), ("misfit", false)]) hl3 hps3 (by simp)) fun pw H4 hpw e4 hw => ?_
      refine q_when (b := true) (et_test (ev_opL (xs := []) (ev_var rfl) (el_lst ea_nil (by decide)) fun p H6 hp e6 H7 e7 Q1 q1 => ⟨pw, p, _, rfl, rfl, SqL.of ((e6.trans e7) _ _ hw), SqL.of (e7 _ _ hp), q1 _ (Ex.refl _)⟩)) (fun _ H5 e5 => ?_) (fun z => nomatch z)
      refine s_retU (xs := [.str "statement", .str "statement"]) (eu_tup (ea_cons (ev_op (ev_var rfl) ev_c (rv_ixQ (i := 0) (.inl (SqL.of (e5 _ _ hw))) rfl)) (ea_cons (fun H6 e6 Q1 q1 => ?_) ea_nil)) (by show 2 ≤ 100000; decide)) fun p H6 _ e6 h6 => hQ p H6 ((((e0.trans e2).trans e3).trans e4).trans (e5.trans e6)) h6
      have ee := ((e3.trans e4).trans e5).trans e6
      exact ⟨.ref a, rfl, a, C, dx, _, .str "statement", rfl, ee _ _ ga2, ee _ _ gd2, Hc.xf, Hc.noP, rfl, q1 _ (Ex.refl _)⟩
    · refine ⟨.non, rfl, _, rfl, ?_⟩
      rw [show decide (V.non = V.non) = true from decide_eq_true rfl]
      exact iteT ⟨v, rfl, (by show 1 ≤ sizeLine; decide), fun p hp => hv p _ (Ex.new hp) upd_same⟩
end K2
set_option Elab.async false
set_option linter.all false
set_option maxRecDepth 100000
set_option maxHeartbeats 4000000
namespace K2
open PySem L2 Evl
/-! ### data beside the pen -/
def hd1 : List PyData → Bool
  | .str _ :: _ => true
  | _ => false
mutual
/-- no list that could be the pen -/
def pl : PyData → Bool
  | .list ds => hd1 ds && plAll ds
  | .tuple ds => plAll ds
  | .none => true
  | .bool _ => true
  | .int _ => true
  | .str _ => true
  | .dict _ => true
def plAll : List PyData → Bool
  | [] => true
  | d :: ds => pl d && plAll ds
end
theorem PenS.at {pen : Addr} {T : Nat} {H : Hp} (h : PenS pen T H) : ∃ c r, H pen = some (.lst (.ref c :: r)) := by
  obtain ⟨c, cs, n, r, h1, _⟩ := h
  exact ⟨c, _, h1⟩
theorem sqT_noP {K : PySem.W.Frag} {H : Hp} {pen a : Addr} {ys xs : List V} (hp : H pen = some (.lst ys)) (h : SqT K H a xs) : SqT K (noP pen H) a xs := by
  rcases h with (h | ⟨u, h⟩) | h
  · exact .inl (.inl (by rw [noP_at (ne_of h hp (by intro z; cases z))]; exact h))
  · exact .inl (.inr ⟨u, by rw [noP_at (ne_of h hp (by intro z; cases z))]; exact h⟩)
  · exact .inr h
theorem sqL_noP {K : PySem.W.Frag} {H : Hp} {pen a c : Addr} {ys xs : List V} (hp : H pen = some (.lst (.ref c :: ys))) (h : SqL K H a xs) (hx : ∀ r, xs ≠ .ref c :: r) : SqL K (noP pen H) a xs := by
  rcases h with (h | ⟨u, h⟩) | h
  · refine .inl (.inl ?_)
    rw [noP_at]
    · exact h
    · intro z
      rw [z, hp] at h
      injection h with h
      injection h with h
      exact hx _ h.symm
  · exact .inl (.inr ⟨u, by rw [noP_at (ne_of h hp (by intro z; cases z))]; exact h⟩)
  · exact .inr h
section
variable {K : PySem.W.Frag} {H H' : Hp} {pen c : Addr} {ys : List V}
mutual
theorem Dx.noP (hp : H pen = some (.lst (.ref c :: ys))) : ∀ (d : PyData) (v : V), pl d = true → Dx K H v d → Dx K (noP pen H) v d
  | .none, _, _, h => by cases h; exact .non
  | .bool b, _, _, h => by cases h; exact .bl b
  | .int i, _, _, h => by cases h; exact .int i
  | .str x, _, _, h => by cases h; exact .str x
  | .list ds, _, l, h => by
    cases h with
    | lst hs ha =>
      rw [pl, Bool.and_eq_true] at l
      refine .lst (sqL_noP hp hs fun r z => ?_) (DxAll.noP hp ds _ l.2 ha)
      rw [z] at ha
      cases ha with
      | cons h1 h2 =>
        cases h1 <;> exact Bool.noConfusion (show false = true from l.1)
  | .tuple ds, _, l, h => by
    cases h with
    | tup hs ha => exact .tup (sqT_noP hp hs) (DxAll.noP hp ds _ l ha)
  | .dict kvs, _, _, h => by
    cases h with
    | dct ha => exact .dct (by rw [noP_at (ne_of ha hp (by intro z; cases z))]; exact ha)
theorem DxAll.noP (hp : H pen = some (.lst (.ref c :: ys))) : ∀ (ds : List PyData) (vs : List V), plAll ds = true → DxAll K H vs ds → DxAll K (noP pen H) vs ds
  | [], _, _, h => by cases h; exact .nil
  | d :: ds, _, l, h => by
    rw [plAll, Bool.and_eq_true] at l
    cases h with
    | cons h1 h2 => exact .cons (Dx.noP hp d _ l.1 h1) (DxAll.noP hp ds _ l.2 h2)
end
theorem Dx.exP {T : Nat} {d : PyData} {v : V} (hp : PenS pen T H) (l : pl d = true) (h : Dx K H v d) (e : ExP pen H H') : Dx K H' v d := by
  obtain ⟨c, r, h1⟩ := hp.at
  exact Dx.ex e.ex _ _ (Dx.noP h1 d v l h)
theorem DxAll.exP {T : Nat} {ds : List PyData} {vs : List V} (hp : PenS pen T H) (l : plAll ds = true) (h : DxAll K H vs ds) (e : ExP pen H H') : DxAll K H' vs ds := by
  obtain ⟨c, r, h1⟩ := hp.at
  exact DxAll.ex e.ex _ _ (DxAll.noP h1 ds vs l h)
end
theorem pl_toD : ∀ t : Tr, pl t.toD = true
  | .leaf x => rfl
  | .node w a b => by
    rw [Tr.toD, pl, plAll, plAll, plAll, pl_toD a, pl_toD b] <;> rfl
theorem pl_isT {d : PyData} {t : Tr} (h : IsT d t) : pl d = true := by
  induction h with
  | leaf x => rfl
  | lst _ _ ia ib =>
    rw [pl, plAll, plAll, plAll, ia, ib] <;> rfl
  | tup _ _ ia ib =>
    rw [pl, plAll, plAll, plAll, ia, ib] <;> rfl
theorem plAll_toD : ∀ ts : List Tr, plAll (ts.map Tr.toD) = true
  | [] => rfl
  | t :: ts => by rw [List.map_cons, plAll, pl_toD t, plAll_toD ts] <;> rfl
/-! ### new lists of data -/
section
variable {K : PySem.W.Frag} {σ : L2.St} {H : Hp} {ta tb te tl : TE} {t : TT} {vs : List Nat} {j : Nat}
def EvLD (K : PySem.W.Frag) (te : TE) (σ : L2.St) (H : Hp) (ds : List PyData) : Prop := ∀ H1, Ex H H1 → ∀ Q : VK, (∀ p ys H2, H1 p = none → Ex H1 H2 → H2 p = some (.lst ys) → DxAll K H2 ys ds → Q (.ref p) H2) → te σ H1 Q
theorem eld_one {v : V} {d : PyData} (h : Ev te σ H v) (hd : Dx K H v d) : EvLD K (tLst (tCons te tNil)) σ H [d] := fun H1 e Q q =>
  h H1 e _ fun H2 e2 => ⟨(by show 1 ≤ sizeLine; decide), fun p hp => q p _ _ (fresh_back e2 hp) (e2.trans (Ex.new hp)) upd_same (.cons (Dx.ex ((e.trans e2).trans (Ex.new hp)) _ _ hd) .nil)⟩
theorem eld_cat {ds es : List PyData} (ha : EvLD K ta σ H ds) (hb : EvLD K tb σ H es) (hz : ds.length + es.length ≤ 2000) : EvLD K (tOp rCat ta tb) σ H (ds ++ es) := fun H1 e Q q =>
  ha H1 e _ fun p ys H2 hp e2 h2 d2 => hb H2 (e.trans e2) _ fun p' ys' H3 hp' e3 h3 d3 => ⟨p, p', ys, ys', rfl, rfl, e3 _ _ h2, h3, by
    have l1 := d2.length
    have l2 := d3.length
    exact Nat.le_of_lt (sz1000 (by omega)), fun r hr => q r _ _ (fresh_back (e2.trans e3) hr) ((e2.trans e3).trans (Ex.new hr)) upd_same ((DxAll.ex (e3.trans (Ex.new hr)) _ _ d2).append (DxAll.ex (Ex.new hr) _ _ d3))⟩
theorem eld_if {b : Bool} {ds : List PyData} (h : EvT t σ H b) (h1 : b = true → EvLD K ta σ H ds) (h2 : b = false → EvLD K tb σ H ds) : EvLD K (tIf t ta tb) σ H ds := fun H1 e Q q => h H1 e _ fun H2 e2 => by
  cases b with
  | true =>
    show ta σ H2 Q
    exact h1 rfl H2 (e.trans e2) Q fun p ys H3 hp e3 => q p ys H3 (fresh_back e2 hp) (e2.trans e3)
  | false =>
    show tb σ H2 Q
    exact h2 rfl H2 (e.trans e2) Q fun p ys H3 hp e3 => q p ys H3 (fresh_back e2 hp) (e2.trans e3)
theorem el_lcLd {ts : List Tr} (p : Tr → Bool) (g : Tr → V) (h : EvLD K tl σ H (ts.map Tr.toD)) (hz : ts.length ≤ 40000) (hw : ∀ x, wipe ((wipe σ vs).set j (some x)) vs = wipe σ vs)
    (ht : ∀ (t1 : Tr) (x : V) H1, Ex H H1 → t1 ∈ ts → Dx K H1 x t1.toD → EvT t ((wipe σ vs).set j (some x)) H1 (p t1)) (he : ∀ (t1 : Tr) (x : V) H1, Ex H H1 → t1 ∈ ts → Dx K H1 x t1.toD → p t1 = true → Ev te ((wipe σ vs).set j (some x)) H1 (g t1)) :
    EvL (tLc (iList K tl) (gName j) t te vs) σ H ((ts.filter p).map g) := fun H0 e Q q => h H0 e _ fun a xs H1 ha e1 hx hd => by
  obtain ⟨f, hf⟩ : ∃ f : Nat → Bool, ∀ i c, ts[i]? = some c → f i = p c := ⟨fun i => match ts[i]? with | some c => p c | none => false, fun i c e => by simp only [e]⟩
  obtain ⟨v, hv⟩ : ∃ v : Nat → V, ∀ i c, ts[i]? = some c → v i = g c := ⟨fun i => match ts[i]? with | some c => g c | none => .non, fun i c e => by simp only [e]⟩
  have hl : xs.length = ts.length := by rw [hd.length, List.length_map]
  have at_ : ∀ i x, xs[i]? = some x → ∃ t1 : Tr, ts[i]? = some t1 ∧ Dx K H1 x t1.toD := fun i x hi => by
    obtain ⟨d, h1, h2⟩ := hd.getV hi
    rw [List.getElem?_map] at h1
    cases e : ts[i]? with
    | none => rw [e] at h1; cases h1
    | some t1 =>
      rw [e] at h1
      cases h1
      exact ⟨t1, e, h2⟩
  have eg := given_list ts p g hf hv
  refine ⟨a, rfl, ⟨xs, SqL.of hx⟩, fun Dl hD => ?_⟩
  refine lc_list (xs := xs) (Cw H1 f v Dl) ⟨hD, Ex.new hD, upd_same⟩ (fun i H' _ pp => SqL.of (pp.2.1 _ _ hx)) (fun i x H' hi pp => ⟨hw _, ?_⟩) (fun H' pp => ?_)
  · obtain ⟨t1, h1, h2⟩ := at_ i x hi
    have hlt := (List.getElem?_eq_some_iff.mp hi).1
    refine cw_turn pp (by omega) (et_is (ht t1 x H1 (e.trans e1) (List.mem_of_getElem? h1) h2) (hf i t1 h1).symm) fun hp => ?_
    rw [hv i t1 h1]
    exact he t1 x H1 (e.trans e1) (List.mem_of_getElem? h1) h2 (by rw [← hf i t1 h1]; exact hp)
  · have e3 := pp.2.2
    rw [hl, eg] at e3
    exact q Dl H' (fresh_back e1 pp.1) (e1.trans pp.2.1) e3
end
/-! ### _law_parts, _law_text -/
abbrev sLp : Stmt := top 54
abbrev sLt : Stmt := top 55
def spLp (K : PySem.W.Frag) (n : Nat) : Sp := fun vs H Q _ => ∃ (v : V) (t : Tr), vs = [v] ∧ Dx K H v t.toD ∧ t.size ≤ n ∧ ∀ p ys H', H p = none → Ex H H' → H' p = some (.lst ys) → DxAll K H' ys (t.parts.map Tr.toD) → Q (.ref p) H'
def spLt (K : PySem.W.Frag) (n : Nat) : Sp := fun vs H Q _ => ∃ (v : V) (t : Tr), vs = [v] ∧ Dx K H v t.toD ∧ t.size ≤ n ∧ t.short ∧ ∀ H', Ex H H' → Q (.str t.text) H'
theorem scLp : FnScope ["statement"] ["statement"] (defScope sLp) := ⟨rfl, rfl, rfl, by decide +kernel, rfl, by decide +kernel, by decide +kernel⟩
def nLt : List Str := ["statement", "part"]
theorem scLt : FnScope nLt ["statement"] (defScope sLt) := ⟨rfl, rfl, rfl, by decide +kernel, rfl, by decide +kernel, by decide +kernel⟩
section
variable {P : Program} {w : World} {K : PySem.W.Frag} {mg : Str → Option Value} {base : Heap}
/-- the items of a node -/
theorem node_at {H : Hp} {v : V} {w1 : Str} {a b : Tr} (h : Dx K H v (Tr.node w1 a b).toD) : ∃ p z1 z2, v = .ref p ∧ (SqL K H p [.str w1, z1, z2] ∨ SqT K H p [.str w1, z1, z2]) ∧ Dx K H z1 a.toD ∧ Dx K H z2 b.toD := by
  obtain ⟨p, zs, rfl, hsq, hzs⟩ := row_at h (show items (Tr.toD (.node w1 a b)) = some [.str w1, a.toD, b.toD] from rfl)
  cases hzs with
  | cons h0 h => cases h with
    | cons h1 h => cases h with
      | cons h2 h =>
        cases h
        cases h0
        exact ⟨p, _, _, rfl, hsq, h1, h2⟩
theorem eld_call {n : Nat} {σ : L2.St} {H : Hp} {te : TE} {v : V} {t : Tr} {E : XK} (h : Ev te σ H v) (hd : Dx K H v t.toD) (hz : t.size ≤ n) : EvLD K (tCall (spLp K n) [] E (tCons te tNil)) σ H (t.parts.map Tr.toD) := fun H1 e Q q =>
  h H1 e _ fun H2 e2 => ⟨v, t, rfl, Dx.ex (e.trans e2) _ _ hd, hz, fun p ys H3 hp e3 h3 d3 => q p ys H3 (fresh_back e2 hp) (e2.trans e3) h3 d3⟩
theorem ok_lp {f : Addr} {fd : FuncData} (F : Fun K "_law_parts" "_law_parts" sLp f fd) (B : Bl mg) (hm : mg "_law_parts" = some (.ref f)) (hk : PySem.W.keepIn K (.ref f) = true) (hb : Binds K fd ["statement"] []) : ∀ n, n ≤ 500 → FnOk P w K mg base CX0 (n + 1) f fd ["statement"] (spLp K n) := by
  intro n
  induction n with
  | zero =>
    intro _
    refine F.ok scLp (fun vs H Q E h => ?_) (fun cdv A outer s H vs Q E hr h => ?_)
    · obtain ⟨v, t, rfl, _⟩ := h
      rfl
    · obtain ⟨v, t, _, _, hz, _⟩ := h
      have := t.size_pos
      omega
  | succ n ih =>
    intro hn
    have Fn := ih (by omega)
    refine F.ok scLp (fun vs H Q E h => ?_) (fun cdv A outer s H vs Q E hr h => ?_)
    · obtain ⟨v, t, rfl, _⟩ := h
      rfl
    · obtain ⟨v, t, rfl, hd, hz, k⟩ := h
      refine ⟨_, pss_one (ps_ret (pe_ifExp (pt_val (pe_callB call_isi (by rfl) B.isi bIsi (pa_cons (pv 0) (pa_cons (pe_bltn (v := .ty "str") (by rfl) B.str bStr rfl) pa_nil)))) (pe_lst (pa_cons (pv 0) pa_nil))
        (pe_op op_cat (pe_op op_cat (pe_lst (pa_cons (pv 0) pa_nil)) (pe_call Fn hr (by rfl) hm hk hb .nil pass0 (pa_cons (pe_ix ix_seq (pv 0) pe_int (fun _ _ => rfl)) pa_nil))) (pe_call Fn hr (by rfl) hm hk hb .nil pass0 (pa_cons (pe_ix ix_seq (pv 0) pe_int (fun _ _ => rfl)) pa_nil))))), ?_⟩
      have key : EvLD K (tIf (tB (tCB (rIsi K) (tCons (tVar 0) (tCons (tC (.ty "str")) tNil)))) (tLst (tCons (tVar 0) tNil)) (tOp rCat (tOp rCat (tLst (tCons (tVar 0) tNil)) (tCall (spLp K n) [] E0 (tCons (tOp (rIx K) (tVar 0) (tC (.int 1))) tNil))) (tCall (spLp K n) [] E0 (tCons (tOp (rIx K) (tVar 0) (tC (.int 2))) tNil)))) [some v] H (t.parts.map Tr.toD) := by
        refine eld_if (b := isTxt t.toD) (et_B (ev_isTxt (ev_var rfl) hd)) (fun hb1 => ?_) (fun hb1 => ?_)
        · cases t with
          | leaf x => exact eld_one (ev_var rfl) hd
          | node w1 a b => cases hb1
        · cases t with
          | leaf x => cases hb1
          | node w1 a b =>
            obtain ⟨p, z1, z2, rfl, hsq, h1, h2⟩ := node_at hd
            rw [Tr.size] at hz
            have la := a.parts_len
            have lb := b.parts_len
            rw [Tr.parts, List.map_cons, List.map_append, ← List.cons_append, ← List.singleton_append]
            exact eld_cat (eld_cat (eld_one (ev_var rfl) hd) (eld_call (ev_op (ev_var rfl) ev_c (rv_ixQ (i := 1) hsq rfl)) h1 (by omega)) (by simp [la]; omega)) (eld_call (ev_op (ev_var rfl) ev_c (rv_ixQ (i := 2) hsq rfl)) h2 (by omega)) (by simp [la, lb]; omega)
      exact key H (Ex.refl H) _ fun p ys H' hp e h1 h2 => k p ys H' hp e h1 h2
theorem ok_lt {f : Addr} {fd : FuncData} {n m : Nat} (hn : n ≤ 500) (F : Fun K "_law_text" "_law_text" sLt f fd) (B : Bl mg) (S : Cal P w K mg base CX0 m "_law_parts" ["statement"] (spLp K n)) : FnOk P w K mg base CX0 (m + 1) f fd ["statement"] (spLt K n) := by
  obtain ⟨fs, fds, Fs, ms, ks, bs⟩ := S.ex
  refine F.ok scLt (fun vs H Q E h => ?_) (fun cdv A outer s H vs Q E hr h => ?_)
  · obtain ⟨v, d, rfl, _⟩ := h
    rfl
  · obtain ⟨v, t, rfl, hd, hz, hsh, k⟩ := h
    refine ⟨_, pss_one (ps_ret (pe_join pe_str (pe_lc (own := [("part", 1)]) (g := gName 1) (tt := tYes) (te := tWord K 1) rfl scLt.nd (pi_list (pe_call Fs hr (by rfl) ms ks bs .nil pass0 (pa_cons (pv 0) pa_nil))) (blkOk_by (N := nLt) (sc := defScope sLt) (by decide +kernel))
      (fun _ _ _ _ _ => pg_name (i := 1) scLt.nd rfl (Or.inl rfl)) (fun _ _ _ _ _ => pts_nil) (fun _ _ _ _ _ => pe_word rfl (Or.inl rfl) (by decide) (by decide) rfl B.isi rfl B.str)))), ?_⟩
    refine s_ret (ev_joinW (ps := t.parts) ?_ hsh (by rw [t.parts_len]; omega)) fun H2 e2 => k _ e2
    have e0 := el_lcLd (K := K) (ts := t.parts) (t := tYes) (te := tWord K 1) (vs := [1]) (j := 1) (σ := [some v, none]) (H := H) (tl := tCall (spLp K n) [] E0 (tCons (tVar 0) tNil)) (fun _ => true) (fun t1 => .str t1.word) (eld_call (ev_var rfl) hd hz) (by rw [t.parts_len]; omega) (fun _ => rfl) (fun _ _ _ _ _ _ => et_yes) (fun t1 x H2 e2 _ hdx _ => ev_word (ev_var rfl) (ev_var rfl) hdx)
    rw [List.filter_eq_self.mpr (fun _ _ => rfl)] at e0
    exact e0
end
end K2
set_option Elab.async false
set_option linter.all false
set_option maxRecDepth 100000
set_option maxHeartbeats 4000000
namespace K2
open PySem L2 Evl
section
variable {K : PySem.W.Frag} {σ : L2.St} {H : Hp} {ta tb te tl : TE} {t : TT} {Q : VK}
theorem if_go {b : Bool} (h : EvT t σ H b) (h1 : b = true → ∀ H1, Ex H H1 → ta σ H1 Q) (h2 : b = false → ∀ H1, Ex H H1 → tb σ H1 Q) : tIf t ta tb σ H Q := h H (Ex.refl H) _ fun H1 e => by
  cases b with
  | true => exact h1 rfl H1 e
  | false => exact h2 rfl H1 e
theorem call_go {sp : Sp} {E : XK} {tA : TA} {vs : List V} (h : EvA tA σ H vs) (k : ∀ H1, Ex H H1 → sp vs H1 Q E) : tCall sp [] E tA σ H Q := h H (Ex.refl H) _ fun H1 e1 => by
  rw [List.append_nil]
  exact k H1 e1
/-- one of a list's words, drawn -/
theorem pick_var {pen a : Addr} {T i j : Nat} {ws : List Str} (hi : σ[i]? = some (some (.ref pen))) (hj : σ[j]? = some (some (.ref a))) (ha : SqL K H a (ss ws)) (h0 : 0 < ws.length) (h1 : ws.length < 1000) (hP : PenS pen T H) (hT : T < 1000000)
    (k : ∀ x H', x ∈ ws → ExP pen H H' → PenS pen (T + 1) H' → Q (.str x) H') : tCall (spPick K) [] E0 (tCons (tVar i) (tCons (tVar j) tNil)) σ H Q := by
  refine call_go (ea_cons (ev_var hi) (ea_cons (ev_var hj) ea_nil)) fun H1 e1 => ?_
  obtain ⟨c, r, hp⟩ := hP.at
  refine ⟨pen, a, ss ws, T, rfl, sqL_noP (e1 _ _ hp) (ex_l e1 ha) (fun r z => ?_), by rw [List.length_map]; exact h0, by rw [List.length_map]; exact h1, hP.ex e1, hT, fun n x H' hx e2 P2 => ?_⟩
  · cases ws with
    | nil => cases z
    | cons _ _ => cases z
  · rw [List.getElem?_map] at hx
    cases hw : ws[n]? with
    | none => rw [hw] at hx; cases hx
    | some y =>
      rw [hw] at hx
      cases hx
      exact k y H' (List.mem_of_getElem? hw) (e1.toP.trans e2) P2
theorem pick_lit {pen : Addr} {T i : Nat} {ws : List Str} {tw : TA} (hi : σ[i]? = some (some (.ref pen))) (ha : EvA tw σ H (ss ws)) (h0 : 0 < ws.length) (h1 : ws.length < 1000) (hP : PenS pen T H) (hT : T < 1000000)
    (k : ∀ x H', x ∈ ws → ExP pen H H' → PenS pen (T + 1) H' → Q (.str x) H') : tCall (spPick K) [] E0 (tCons (tVar i) (tCons (tLst tw) tNil)) σ H Q := by
  refine ⟨.ref pen, hi, (el_lst ha (by rw [List.length_map]; omega)) H (Ex.refl H) _ fun p H1 hp e1 h1' => ?_⟩
  refine ⟨pen, p, ss ws, T, rfl, ?_, by rw [List.length_map]; exact h0, by rw [List.length_map]; exact h1, hP.ex e1, hT, fun n x H' hx e2 P2 => ?_⟩
  · exact .inl (.inl (by rw [noP_at (hP.ne hp)]; exact h1'))
  · rw [List.getElem?_map] at hx
    cases hw : ws[n]? with
    | none => rw [hw] at hx; cases hx
    | some y =>
      rw [hw] at hx
      cases hx
      exact k y H' (List.mem_of_getElem? hw) (e1.toP.trans e2) P2
theorem draw_go {pen : Addr} {T m i : Nat} {tm : TE} (hi : σ[i]? = some (some (.ref pen))) (hm : Ev tm σ H (.int (m : Int))) (h0 : 0 < m) (h1 : m < 1000000) (hP : PenS pen T H) (hT : T < 1000000)
    (k : ∀ (j : Nat) H', j < m → ExP pen H H' → PenS pen (T + 1) H' → Q (.int (j : Int)) H') : tCall spDraw [] E0 (tCons (tVar i) (tCons tm tNil)) σ H Q :=
  call_go (ea_cons (ev_var hi) (ea_cons hm ea_nil)) fun H1 e1 => ⟨pen, m, T, rfl, h0, h1, hP.ex e1, hT, fun j H' hj e2 P2 => k j H' hj (e1.toP.trans e2) P2⟩
end
/-! ### _law_statement -/
abbrev sLs : Stmt := top 56
def cst : Nat → Nat
  | 0 => 2
  | d + 1 => 2 + 2 * cst d
def spLs (K : PySem.W.Frag) (n : Nat) : Sp := fun vs H Q _ => ∃ (pen kd : Addr) (deep T : Nat), vs = [.ref pen, .ref kd, .int (deep : Int)] ∧ deep ≤ n ∧ SqL K H kd (ss ["coin", "tea", "a"]) ∧ PenS pen T H ∧ T + cst deep < 1000000 ∧
  ∀ (v : V) (t : Tr) H', ExP pen H H' → PenS pen (T + cst deep) H' → Dx K H' v t.toD → t.ok = true → t.size + 1 ≤ 2 ^ (deep + 1) → Q v H'
def nLs : List Str := ["pen", "kinds", "deep", "way"]
theorem scLs : FnScope nLs ["pen", "kinds", "deep"] (defScope sLs) := ⟨rfl, rfl, rfl, by decide +kernel, rfl, by decide +kernel, by decide +kernel⟩
theorem leaf_ok : ∀ x ∈ (["coin", "tea", "a", "nothing", "any", "no", "nothing"] : List Str), (Tr.leaf x).ok = true := by decide +kernel
theorem m3 {x : Str} (h : x ∈ (["coin", "tea", "a"] : List Str)) : x ∈ (["coin", "tea", "a", "nothing", "any", "no", "nothing"] : List Str) := by
  have q : x ∈ (["coin", "tea", "a"] : List Str) ++ (["nothing", "any", "no", "nothing"] : List Str) := List.mem_append_left _ h
  exact q
theorem m4 {x : Str} (h : x ∈ (["nothing", "any", "no", "nothing"] : List Str)) : x ∈ (["coin", "tea", "a", "nothing", "any", "no", "nothing"] : List Str) := by
  have q : x ∈ (["coin", "tea", "a"] : List Str) ++ (["nothing", "any", "no", "nothing"] : List Str) := List.mem_append_right _ h
  exact q
def tDead : TS := fun _ _ _ => False
theorem pss_dead {X : Cx} {l : List Stmt} : PSs X l tDead := ⟨fun _ _ _ _ _ _ z => z.elim⟩
theorem cst_pos : ∀ d, 2 ≤ cst d
  | 0 => Nat.le_refl _
  | d + 1 => by rw [cst]; omega
section
variable {P : Program} {w : World} {K : PySem.W.Frag} {mg : Str → Option Value} {base : Heap}
theorem ok_ls {f : Addr} {fd : FuncData} (F : Fun K "_law_statement" "_law_statement" sLs f fd) (hm : mg "_law_statement" = some (.ref f)) (hk : PySem.W.keepIn K (.ref f) = true) (hb : Binds K fd ["pen", "kinds", "deep"] [])
    (D : Cal P w K mg base CX0 1 "_law_draw" ["pen", "many"] spDraw) (Pk : Cal P w K mg base CX0 2 "_law_pick" ["pen", "some"] (spPick K)) : ∀ n, FnOk P w K mg base CX0 (n + 4) f fd ["pen", "kinds", "deep"] (spLs K n) := by
  obtain ⟨fn, fdn, Fn, mn, kn, bn⟩ := D.ex
  obtain ⟨fp, fdp, Fp, mp, kp, bp⟩ := Pk.ex
  intro n
  induction n with
  | zero =>
    refine F.ok scLs (fun vs H Q E h => ?_) (fun cdv A outer s H vs Q E hr h => ?_)
    · obtain ⟨pen, kd, deep, T, rfl, _⟩ := h
      rfl
    · obtain ⟨pen, kd, deep, T, rfl, hd, ha, hP, hT, k⟩ := h
      refine ⟨_, pss_cons (ps_set (i := 3) scLs.nd rfl (Or.inl rfl) (pe_call Fn (hr.mono (by omega)) (by rfl) mn kn bn .nil pass0 (pa_cons (pv 0) (pa_cons pe_int pa_nil))))
        (pss_cons (ps_if (pw_or (pt_cmpR op_eq (pv 2) pe_int (nomark _)) (pw_or1 (pt_cmpR op_lt (pv 3) pe_int (nomark _)))).pt
            (pss_one (ps_ret (pe_ifExp (pt_cmpR op_lt (pv 3) pe_int (nomark _)) (pe_call Fp (hr.mono (by omega)) (by rfl) mp kp bp .nil pass0 (pa_cons (pv 0) (pa_cons (pv 1) pa_nil)))
              (pe_call Fp (hr.mono (by omega)) (by rfl) mp kp bp .nil pass0 (pa_cons (pv 0) (pa_cons (pe_lst (pa_cons pe_str (pa_cons pe_str (pa_cons pe_str (pa_cons pe_str pa_nil))))) pa_nil)))))) pss_nil)
          pss_dead), ?_⟩
      obtain rfl : deep = 0 := by omega
      have hc : cst 0 = 2 := rfl
      refine draw_go (m := 12) rfl ev_c (by decide) (by decide) hP (by omega) fun j H1 hj e1 P1 => ?_
      have ha1 : SqL K H1 kd (ss ["coin", "tea", "a"]) := by
        obtain ⟨c, r, hp⟩ := hP.at
        exact ex_l e1.ex (sqL_noP hp ha (fun r z => by cases z))
      refine q_when (b := decide (V.int ((0 : Nat) : Int) = V.int 0) || decide ((j : Int) < 5)) (et_or (et_test (ev_op (ev_var rfl) ev_c (rv_eq rfl))) (fun _ => et_test (ev_op (ev_var rfl) ev_c rv_I0))) (fun _ H2 e2 => ?_) (fun hb2 => absurd rfl (of_decide_eq_false (Bool.or_eq_false_iff.mp hb2).1))
      have fin : ∀ x H3, x ∈ (["coin", "tea", "a", "nothing", "any", "no", "nothing"] : List Str) → ExP pen H2 H3 → PenS pen (T + 1 + 1) H3 → Q (.str x) H3 := fun x H3 hx e3 P3 =>
        k (.str x) (.leaf x) H3 (e1.trans (e2.toP.trans e3)) P3 (.str x) (leaf_ok x hx) (show 1 + 1 ≤ 2 ^ (0 + 1) by decide)
      exact if_go (b := decide ((j : Int) < 11)) (et_test (ev_op (ev_var rfl) ev_c rv_I0)) (fun _ H3 e3 => pick_var rfl rfl (ex_l (e2.trans e3) ha1) (by decide) (by decide) ((P1.ex e2).ex e3) (by omega) fun x H4 hx e4 P4 => fin x H4 (m3 hx) (e3.toP.trans e4) P4)
        (fun _ H3 e3 => pick_lit (ws := ["nothing", "any", "no", "nothing"]) rfl (ea_cons ev_c (ea_cons ev_c (ea_cons ev_c (ea_cons ev_c ea_nil)))) (by decide) (by decide) ((P1.ex e2).ex e3) (by omega) fun x H4 hx e4 P4 => fin x H4 (m4 hx) (e3.toP.trans e4) P4)
  | succ n ih =>
    refine F.ok scLs (fun vs H Q E h => ?_) (fun cdv A outer s H vs Q E hr h => ?_)
    · obtain ⟨pen, kd, deep, T, rfl, _⟩ := h
      rfl
    · obtain ⟨pen, kd, deep, T, rfl, hd, ha, hP, hT, k⟩ := h
      have hcp := cst_pos deep
      refine ⟨_, pss_cons (ps_set (i := 3) scLs.nd rfl (Or.inl rfl) (pe_call Fn (hr.mono (by omega)) (by rfl) mn kn bn .nil pass0 (pa_cons (pv 0) (pa_cons pe_int pa_nil))))
        (pss_cons (ps_if (pw_or (pt_cmpR op_eq (pv 2) pe_int (nomark _)) (pw_or1 (pt_cmpR op_lt (pv 3) pe_int (nomark _)))).pt
            (pss_one (ps_ret (pe_ifExp (pt_cmpR op_lt (pv 3) pe_int (nomark _)) (pe_call Fp (hr.mono (by omega)) (by rfl) mp kp bp .nil pass0 (pa_cons (pv 0) (pa_cons (pv 1) pa_nil)))
              (pe_call Fp (hr.mono (by omega)) (by rfl) mp kp bp .nil pass0 (pa_cons (pv 0) (pa_cons (pe_lst (pa_cons pe_str (pa_cons pe_str (pa_cons pe_str (pa_cons pe_str pa_nil))))) pa_nil)))))) pss_nil)
          (pss_cons (ps_if (pt_cmpR op_eq (pv 3) pe_int (nomark _)) (pss_one (ps_ret (pe_call Fp (hr.mono (by omega)) (by rfl) mp kp bp .nil pass0 (pa_cons (pv 0) (pa_cons (pe_lst (pa_cons pe_str (pa_cons pe_str (pa_cons pe_str (pa_cons pe_str pa_nil))))) pa_nil))))) pss_nil)
            (pss_one (ps_ret (pe_tup (pa_cons (pe_ix ix_seq (pe_lst (pa_cons pe_str (pa_cons pe_str (pa_cons pe_str (pa_cons pe_str (pa_cons pe_str (pa_cons pe_str pa_nil))))))) (pe_op op_sub (pv 3) pe_int) (fun _ _ => rfl))
              (pa_cons (pe_call ih hr (by rfl) hm hk hb .nil pass0 (pa_cons (pv 0) (pa_cons (pv 1) (pa_cons (pe_op op_sub (pv 2) pe_int) pa_nil))))
                (pa_cons (pe_call ih hr (by rfl) hm hk hb .nil pass0 (pa_cons (pv 0) (pa_cons (pv 1) (pa_cons (pe_op op_sub (pv 2) pe_int) pa_nil)))) pa_nil)))))))), ?_⟩
      refine draw_go (m := 12) rfl ev_c (by decide) (by decide) hP (by omega) fun j H1 hj e1 P1 => ?_
      have ha1 : SqL K H1 kd (ss ["coin", "tea", "a"]) := by
        obtain ⟨c, r, hp⟩ := hP.at
        exact ex_l e1.ex (sqL_noP hp ha (fun r z => by cases z))
      have hpow : 2 ≤ 2 ^ (deep + 1) := by
        rw [Nat.pow_succ]
        have := Nat.two_pow_pos deep
        omega
      have fin : ∀ x H3, x ∈ (["coin", "tea", "a", "nothing", "any", "no", "nothing"] : List Str) → ExP pen H1 H3 → PenS pen (T + 1 + 1) H3 → Q (.str x) H3 := fun x H3 hx e3 P3 =>
        k (.str x) (.leaf x) H3 (e1.trans e3) (P3.le (by omega)) (.str x) (leaf_ok x hx) hpow
      refine q_when (b := decide (V.int (deep : Int) = V.int 0) || decide ((j : Int) < 5)) (et_or (et_test (ev_op (ev_var rfl) ev_c (rv_eq rfl))) (fun _ => et_test (ev_op (ev_var rfl) ev_c rv_I0))) (fun _ H2 e2 => ?_) (fun hb2 H2 e2 => ?_)
      · exact if_go (b := decide ((j : Int) < 11)) (et_test (ev_op (ev_var rfl) ev_c rv_I0)) (fun _ H3 e3 => pick_var rfl rfl (ex_l (e2.trans e3) ha1) (by decide) (by decide) ((P1.ex e2).ex e3) (by omega) fun x H4 hx e4 P4 => fin x H4 (m3 hx) ((e2.trans e3).toP.trans e4) P4)
          (fun _ H3 e3 => pick_lit (ws := ["nothing", "any", "no", "nothing"]) rfl (ea_cons ev_c (ea_cons ev_c (ea_cons ev_c (ea_cons ev_c ea_nil)))) (by decide) (by decide) ((P1.ex e2).ex e3) (by omega) fun x H4 hx e4 P4 => fin x H4 (m4 hx) ((e2.trans e3).toP.trans e4) P4)
      · rw [Bool.or_eq_false_iff] at hb2
        have hd0 : deep ≠ 0 := fun z => by
          have h := of_decide_eq_false hb2.1
          rw [z] at h
          exact h rfl
        have hj5 := of_decide_eq_false hb2.2
        obtain ⟨d, rfl⟩ : ∃ d, deep = d + 1 := ⟨deep - 1, by omega⟩
        have hcd : cst (d + 1) = 2 + 2 * cst d := rfl
        have hcp2 := cst_pos d
        refine q_when (b := decide (V.int (j : Int) = V.int 11)) (et_test (ev_op (ev_var rfl) ev_c (rv_eq rfl))) (fun _ H3 e3 => ?_) (fun hb3 H3 e3 => ?_)
        · exact pick_lit (ws := ["nothing", "any", "no", "nothing"]) rfl (ea_cons ev_c (ea_cons ev_c (ea_cons ev_c (ea_cons ev_c ea_nil)))) (by decide) (by decide) ((P1.ex e2).ex e3) (by omega) fun x H4 hx e4 P4 => fin x H4 (m4 hx) ((e2.trans e3).toP.trans e4) P4
        · have hj11 : j ≠ 11 := fun z => by
            have h := of_decide_eq_false hb3
            rw [z] at h
            exact h rfl
          have hlt : j - 5 < (["both", "gives", "gives", "pick", "or", "both"] : List Str).length := by show j - 5 < 6; omega
          have e23 := e2.trans e3
          refine (ev_opL1 (xs := ss ["both", "gives", "gives", "pick", "or", "both"]) (y := .int ((j - 5 : Nat) : Int)) (z := .str ((["both", "gives", "gives", "pick", "or", "both"] : List Str)[j - 5])) (el_lst (ea_cons ev_c (ea_cons ev_c (ea_cons ev_c (ea_cons ev_c (ea_cons ev_c (ea_cons ev_c ea_nil)))))) (by show 6 ≤ 100000; decide)) (fun H4 _ => ev_is (ev_op (ev_var rfl) ev_c rv_I0) ?_) (fun p H4 hp e4 => rv_ixQ (.inl (SqL.of hp)) (by rw [List.getElem?_map, List.getElem?_eq_getElem hlt] <;> rfl))) H3 (Ex.refl H3) _ fun H4 e4 => ?_
          · show V.int ((j : Int) - 5) = _
            rw [show ((j - 5 : Nat) : Int) = (j : Int) - 5 from by omega]
          · have hwj : ∀ i (h : i < 6), inV (.str ((["both", "gives", "gives", "pick", "or", "both"] : List Str)[i])) (ss joins) = true := by decide +kernel
            have hw := hwj (j - 5) hlt
            generalize (["both", "gives", "gives", "pick", "or", "both"] : List Str)[j - 5] = w1 at hw
            have args : ∀ H', EvA (tCons (tVar 0) (tCons (tVar 1) (tCons (tOp (rI0 fun i j => .int (i - j)) (tVar 2) (tC (.int 1))) tNil))) [some (V.ref pen), some (V.ref kd), some (V.int ((d + 1 : Nat) : Int)), some (V.int (j : Int))] H' [.ref pen, .ref kd, .int (d : Int)] := fun H' =>
              ea_cons (ev_var rfl) (ea_cons (ev_var rfl) (ea_cons (ev_is (ev_op (ev_var rfl) ev_c rv_I0) (by show V.int (((d + 1 : Nat) : Int) - 1) = _; rw [show (((d + 1 : Nat) : Int) - 1) = (d : Int) from by omega])) ea_nil))
            have ha4 := ex_l (e23.trans e4) ha1
            have P4 := P1.ex (e23.trans e4)
            refine call_go (args H4) fun H5 e5 => ⟨pen, kd, d, T + 1, rfl, by omega, ex_l e5 ha4, P4.ex e5, by omega, fun v1 t1 H6 e6 P6 d1 o1 z1 => ?_⟩
            have ha6 : SqL K H6 kd (ss ["coin", "tea", "a"]) := by
              obtain ⟨c, r, hp⟩ := (P4.ex e5).at
              exact ex_l e6.ex (sqL_noP hp (ex_l e5 ha4) (fun r z => by cases z))
            refine call_go (args H6) fun H7 e7 => ⟨pen, kd, d, T + 1 + cst d, rfl, by omega, ex_l e7 ha6, P6.ex e7, by omega, fun v2 t2 H8 e8 P8 d2 o2 z2 => ?_⟩
            refine ⟨(by show 3 ≤ sizeLine; decide), fun p hp => ?_⟩
            have d1' := Dx.exP (P6.ex e7) (pl_toD t1) (Dx.ex e7 _ _ d1) e8
            refine k (.ref p) (.node w1 t1 t2) _ (e1.trans ((e23.trans (e4.trans e5)).toP.trans (e6.trans (e7.toP.trans (e8.trans (Ex.new hp).toP))))) ((P8.ex (Ex.new hp)).le (by omega)) (.tup (st_of upd_same) (.cons (.str w1) (.cons (Dx.ex (Ex.new hp) _ _ d1') (.cons (Dx.ex (Ex.new hp) _ _ d2) .nil)))) ?_ ?_
            · rw [Tr.ok, hw, o1, o2] <;> rfl
            · rw [Tr.size, Nat.pow_succ]
              omega
end
end K2
set_option Elab.async false
set_option linter.all false
set_option maxRecDepth 100000
set_option maxHeartbeats 4000000
namespace K2
open PySem L2 Evl
/-! ### _law_listed -/
abbrev sLl : Stmt := top 57
def spLl (K : PySem.W.Frag) (n : Nat) : Sp := fun vs H Q _ => ∃ (pen : Addr) (v : V) (t : Tr) (T : Nat), vs = [.ref pen, v] ∧ Dx K H v t.toD ∧ t.size ≤ n ∧ PenS pen T H ∧ T + t.size < 1000000 ∧
  ∀ (u : V) (d : PyData) H', ExP pen H H' → PenS pen (T + t.size) H' → Dx K H' u d → IsT d t → Q u H'
def nLl : List Str := ["pen", "statement", "row"]
theorem scLl : FnScope nLl ["pen", "statement"] (defScope sLl) := ⟨rfl, rfl, rfl, by decide +kernel, rfl, by decide +kernel, by decide +kernel⟩
section
variable {P : Program} {w : World} {K : PySem.W.Frag} {mg : Str → Option Value} {base : Heap}
theorem ok_ll {f : Addr} {fd : FuncData} (F : Fun K "_law_listed" "_law_listed" sLl f fd) (B : Bl mg) (hm : mg "_law_listed" = some (.ref f)) (hk : PySem.W.keepIn K (.ref f) = true) (hb : Binds K fd ["pen", "statement"] [])
    (D : Cal P w K mg base CX0 1 "_law_draw" ["pen", "many"] spDraw) : ∀ n, FnOk P w K mg base CX0 (n + 3) f fd ["pen", "statement"] (spLl K n) := by
  obtain ⟨fn, fdn, Fn, mn, kn, bn⟩ := D.ex
  intro n
  induction n with
  | zero =>
    refine F.ok (k := 2) scLl (fun vs H Q E h => ?_) (fun cdv A outer s H vs Q E hr h => ?_)
    · obtain ⟨pen, v, t, T, rfl, _⟩ := h
      rfl
    · obtain ⟨pen, v, t, T, rfl, _, hz, _⟩ := h
      have := t.size_pos
      omega
  | succ n ih =>
    refine F.ok scLl (fun vs H Q E h => ?_) (fun cdv A outer s H vs Q E hr h => ?_)
    · obtain ⟨pen, v, t, T, rfl, _⟩ := h
      rfl
    · obtain ⟨pen, v, t, T, rfl, hd, hz, hP, hT, k⟩ := h
      refine ⟨_, pss_cons (ps_if (pt_val (pe_callB call_isi (by rfl) B.isi bIsi (pa_cons (pv 1) (pa_cons (pe_bltn (v := .ty "str") (by rfl) B.str bStr rfl) pa_nil)))) (pss_one (ps_ret (pv 1))) pss_nil)
        (pss_cons (ps_set (i := 2) scLl.nd rfl (Or.inl rfl) (pe_lst (pa_cons (pe_ix ix_seq (pv 1) pe_int (fun _ _ => rfl)) (pa_cons (pe_call ih hr (by rfl) hm hk hb .nil pass0 (pa_cons (pv 0) (pa_cons (pe_ix ix_seq (pv 1) pe_int (fun _ _ => rfl)) pa_nil)))
            (pa_cons (pe_call ih hr (by rfl) hm hk hb .nil pass0 (pa_cons (pv 0) (pa_cons (pe_ix ix_seq (pv 1) pe_int (fun _ _ => rfl)) pa_nil))) pa_nil)))))
          (pss_one (ps_ret (pe_ifExp (pt_cmpR op_eq (pe_call Fn (hr.mono (by omega)) (by rfl) mn kn bn .nil pass0 (pa_cons (pv 0) (pa_cons pe_int pa_nil))) pe_int (nomark _)) (pv 2) (pe_tupleOf (by rfl) B.tuple (pv 2)))))), ?_⟩
      refine q_when (b := isTxt t.toD) (et_B (ev_isTxt (ev_var rfl) hd)) (fun hb1 H1 e1 => ?_) (fun hb1 H1 e1 => ?_)
      · cases t with
        | leaf x => exact s_ret (ev_var rfl) fun H2 e2 => k v (.str x) H2 (e1.trans e2).toP ((hP.ex (e1.trans e2)).le (by omega)) (Dx.ex (e1.trans e2) _ _ hd) (.leaf x)
        | node w1 a b => cases hb1
      · cases t with
        | leaf x => cases hb1
        | node w1 a b =>
          obtain ⟨c, r, hp⟩ := hP.at
          obtain ⟨p, z1, z2, rfl, hsq, h1, h2⟩ := node_at (Dx.noP hp _ v (pl_toD _) hd)
          rw [Tr.size] at hz hT
          have g1 : Ex (noP pen H) H1 := (noP_ex pen H).trans e1
          refine (ev_op (σ := [some (.ref pen), some (.ref p), none]) (ta := tVar 1) (tb := tC (.int 0)) (z := .str w1) (ev_var rfl) ev_c (rv_ixQ (i := 0) (sq_ex g1 hsq) rfl)) H1 (Ex.refl H1) _ fun H2 e2 => ?_
          have g2 := g1.trans e2
          refine call_go (ea_cons (ev_var rfl) (ea_cons (ev_op (ev_var rfl) ev_c (rv_ixQ (i := 1) (sq_ex g2 hsq) rfl)) ea_nil)) fun H3 e3 => ⟨pen, z1, a, T, rfl, Dx.ex (g2.trans e3) _ _ h1, by omega, hP.ex ((e1.trans e2).trans e3), by omega, fun u1 d1 H4 e4 P4 k1 i1 => ?_⟩
          have p4 : ExP pen H H4 := ((e1.trans e2).trans e3).toP.trans e4
          refine call_go (ea_cons (ev_var rfl) (ea_cons (ev_op (ev_var rfl) ev_c (rv_ixQ (i := 2) (sq_ex p4.ex hsq) rfl)) ea_nil)) fun H5 e5 => ⟨pen, z2, b, T + a.size, rfl, Dx.ex (p4.trans e5.toP).ex _ _ h2, by omega, P4.ex e5, by omega, fun u2 d2 H6 e6 P6 k2 i2 => ?_⟩
          have k1' := Dx.exP (P4.ex e5) (pl_isT i1) (Dx.ex e5 _ _ k1) e6
          refine ⟨(by show 3 ≤ sizeLine; decide), fun q hq => ?_⟩
          have p6 : ExP pen H (upd H6 q (.lst [.str w1, u1, u2])) := p4.trans (e5.toP.trans (e6.trans (Ex.new hq).toP))
          have gq : upd H6 q (.lst [.str w1, u1, u2]) q = some (.lst [.str w1, u1, u2]) := upd_same
          have nq : q ≠ pen := P6.ne hq
          have P7 := P6.ex (Ex.new (o := .lst [.str w1, u1, u2]) hq)
          have m1 := Dx.ex (Ex.new (o := .lst [.str w1, u1, u2]) hq) _ _ k1'
          have m2 := Dx.ex (Ex.new (o := .lst [.str w1, u1, u2]) hq) _ _ k2
          generalize upd H6 q (.lst [.str w1, u1, u2]) = H7 at p6 gq P7 m1 m2
          refine draw_go (m := 2) rfl ev_c (by decide) (by decide) P7 (by omega) fun j H8 hj e8 P8 => ⟨rfl, _, rfl, ?_⟩
          have gq8 := e8.1 _ _ nq gq
          have m18 := Dx.exP P7 (pl_isT i1) m1 e8
          have m28 := Dx.exP P7 (pl_isT i2) m2 e8
          have zz : T + (Tr.node w1 a b).size = T + a.size + b.size + 1 := by rw [Tr.size]; omega
          cases decide (V.int (j : Int) = V.int 0) with
          | true => exact iteT ⟨.ref q, rfl, k (.ref q) (.list [.str w1, d1, d2]) H8 (p6.trans e8) (P8.le (by omega)) (.lst (sq_of gq8) (.cons (.str w1) (.cons m18 (.cons m28 .nil)))) (.lst i1 i2)⟩
          | false =>
            exact iteF ⟨.ref q, rfl, .inl ⟨q, _, rfl, SqL.of gq8, fun u hu => k (.ref u) (.tuple [.str w1, d1, d2]) _ ((p6.trans e8).trans (Ex.new hu).toP) ((P8.ex (Ex.new hu)).le (by omega)) (.tup (st_of upd_same) (.cons (.str w1) (.cons (Dx.ex (Ex.new hu) _ _ m18) (.cons (Dx.ex (Ex.new hu) _ _ m28) .nil)))) (.tup i1 i2)⟩⟩
end
end K2
set_option Elab.async false
set_option linter.all false
set_option maxRecDepth 100000
set_option maxHeartbeats 4000000
namespace K2
open PySem L2 Evl
/-! ### _law_long -/
theorem ExP.upd {pen D : Addr} {H H4 : Hp} {o : HO} (e : ExP pen H H4) (hD : H D = none) : ExP pen H (upd H4 D o) :=
  ⟨fun a u n h => by rw [upd_ne (ne_of_none h hD)]; exact e.1 a u n h, fun c r h => by rw [upd_ne (ne_of_none h hD)]; exact e.2 c r h⟩
theorem PenS.upd {pen D : Addr} {T T' : Nat} {H H4 : Hp} {o : HO} (h : PenS pen T H) (e : ExP pen H H4) (h4 : PenS pen T' H4) (hD : H D = none) : PenS pen T' (upd H4 D o) := by
  obtain ⟨c, cs, n, r, h1, h2, h3⟩ := h
  obtain ⟨c', cs', n', r', g1, g2, g3⟩ := h4
  obtain ⟨r2, q⟩ := e.2 c _ h1
  rw [g1] at q
  cases q
  exact ⟨c, cs', n', r', by rw [upd_ne (ne_of_none h1 hD)]; exact g1, by rw [upd_ne (ne_of_none h2 hD)]; exact g2, g3⟩
theorem cutV_to (xs : List V) (j : Nat) : cutV xs none (some (j : Int)) = xs.take j := by
  unfold cutV
  rw [HT.sIx_none, HT.sIx_nat, List.drop_zero, Nat.sub_zero]
  by_cases h : j ≤ xs.length
  · rw [Nat.min_eq_left h]
  · rw [Nat.min_eq_right (by omega), List.take_length, List.take_of_length_le (by omega)]
theorem cutV_from (xs : List V) (j : Nat) : cutV xs (some (j : Int)) none = xs.drop j := by
  unfold cutV
  rw [HT.sIx_none, HT.sIx_nat]
  by_cases h : j ≤ xs.length
  · rw [Nat.min_eq_left h, List.take_of_length_le (by rw [List.length_drop]; omega)]
  · rw [Nat.min_eq_right (by omega), List.drop_length, List.drop_of_length_le (by omega), List.take_nil]
theorem sizes_append : ∀ a b : List Tr, sizes (a ++ b) = sizes a + sizes b
  | [], b => by rw [List.nil_append, sizes, Nat.zero_add]
  | t :: a, b => by rw [List.cons_append, sizes, sizes, sizes_append a b]; omega
theorem len_sizes : ∀ ts : List Tr, ts.length ≤ sizes ts
  | [] => Nat.le_refl _
  | t :: ts => by
    have := t.size_pos
    have := len_sizes ts
    rw [List.length_cons, sizes]
    omega
abbrev sLg : Stmt := top 58
def spLg (K : PySem.W.Frag) : Sp := fun vs H Q _ => ∃ (pen : Addr) (m T : Nat), vs = [.ref pen, .int (m : Int)] ∧ m ≤ 12 ∧ PenS pen T H ∧ T + 100 < 1000000 ∧
  ∀ (v : V) (t : Tr) H', ExP pen H H' → PenS pen (T + 100) H' → Dx K H' v t.toD → t.ok = true → t.size = 2 * m + 1 → Q v H'
def nLg : List Str := ["pen", "many", "some", "at", "turn"]
theorem scLg : FnScope nLg ["pen", "many"] (defScope sLg) := ⟨rfl, rfl, rfl, by decide +kernel, rfl, by decide +kernel, by decide +kernel⟩
def lgWords : List Str := ["coin", "a", "any", "no", "nothing", "abcdefgh"]
theorem lg_ok : ∀ x ∈ lgWords, (Tr.leaf x).ok = true := by decide +kernel
theorem lg_joins : ∀ x ∈ (["both", "gives", "pick", "or"] : List Str), inV (.str x) (ss joins) = true := by decide +kernel
def LgC (K : PySem.W.Frag) (pen Dl : Addr) (T : Nat) (H : Hp) (i : Nat) (H' : Hp) : Prop := ∃ ws : List Str, H' Dl = some (.lst (ss ws)) ∧ ws.length = i ∧ (∀ x ∈ ws, x ∈ lgWords) ∧ ExP pen H H' ∧ PenS pen (T + i) H'
/-- the list of drawn words -/
theorem lg_words {K : PySem.W.Frag} {pen : Addr} {m T : Nat} {s2 s3 s4 : Option V} {tw ta : TA} {H : Hp} {Q : VK} (hta : EvA ta [some (.ref pen), some (.int (m : Int)), s2, s3, s4] H [.int ((m + 1 : Nat) : Int)]) (htw : ∀ σ H', EvA tw σ H' (ss lgWords)) (hm : m ≤ 12) (hP : PenS pen T H) (hT : T + 100 < 1000000)
    (k : ∀ L ws H', L ≠ pen → H' L = some (.lst (ss ws)) → ws.length = m + 1 → (∀ x ∈ ws, x ∈ lgWords) → ExP pen H H' → PenS pen (T + (m + 1)) H' → Q (.ref L) H') :
    tLc (iRng1 ta) (gName 4) tYes (tCall (spPick K) [] E0 (tCons (tVar 0) (tCons (tLst tw) tNil))) [4] [some (.ref pen), some (.int (m : Int)), s2, s3, s4] H Q := by
  refine hta H (Ex.refl H) _ fun H1 e1 => ⟨((m + 1 : Nat) : Int), rfl, by omega, by omega, fun Dl hD => ?_⟩
  have hP1 := hP.ex e1
  refine lc_range (lo := 0) (n := ((m + 1 : Nat) : Int).toNat) (LgC K pen Dl T H1) ⟨[], upd_same, rfl, (fun x h => by cases h), (ExP.refl pen H1).upd hD, hP1.upd (ExP.refl pen H1) hP1 hD⟩ (fun i H' hi p => ⟨rfl, ?_⟩) (fun H' p => ?_)
  · obtain ⟨ws, g1, g2, g3, g4, g5⟩ := p
    have hi2 : i < m + 1 := by omega
    refine iteT (B := LgC K pen Dl T H1 (i + 1) H') (pick_lit (ws := lgWords) rfl (htw _ _) (by decide) (by decide) g5 (by omega) fun x H4 hx e4 P4 => ?_)
    have nD : Dl ≠ pen := hP1.ne hD
    refine ⟨ss ws, e4.1 _ _ nD g1, Nat.lt_of_le_of_lt (show (ss ws).length ≤ 2000 by rw [List.length_map]; omega) (by decide), ws ++ [x], ?_, ?_, ?_, (g4.trans e4).upd hD, hP1.upd (g4.trans e4) P4 hD⟩
    · rw [upd_same, ss, ss, List.map_append] <;> rfl
    · rw [List.length_append, g2] <;> rfl
    · intro y hy
      rcases List.mem_append.mp hy with z | z
      · exact g3 y z
      · rw [List.mem_singleton.mp z]
        exact hx
  · obtain ⟨ws, g1, g2, g3, g4, g5⟩ := p
    have e : ((m + 1 : Nat) : Int).toNat = m + 1 := by simp
    rw [e] at g2 g5
    exact k Dl ws H' (hP1.ne hD) g1 g2 g3 (e1.toP.trans g4) g5
theorem dxs_leaf (K : PySem.W.Frag) (H : Hp) : ∀ ws : List Str, DxAll K H (ss ws) ((ws.map Tr.leaf).map Tr.toD)
  | [] => .nil
  | x :: ws => .cons (.str x) (dxs_leaf K H ws)
theorem sizes_leaf : ∀ ws : List Str, sizes (ws.map Tr.leaf) = ws.length
  | [] => rfl
  | x :: ws => by rw [List.map_cons, sizes, sizes_leaf ws, Tr.size, List.length_cons]; omega
theorem q_run {te : TE} {σ : L2.St} {H : Hp} {D : Ends} {tz : TS} {i : Nat} (h : te σ H fun v H1 => tz D (σ.set i (some v)) H1) : tSeq (tAsg te (gName i)) tz D σ H := h
theorem s_run {te : TE} {σ : L2.St} {H : Hp} {D : Ends} {i : Nat} (h : te σ H fun v H1 => D.nx (σ.set i (some v)) H1) : tAsg te (gName i) D σ H := h
theorem t_go {t : TT} {σ : L2.St} {H : Hp} {Q : Bool → Hp → Prop} {b : Bool} (h : EvT t σ H b) (k : ∀ H1, Ex H H1 → Q b H1) : t σ H Q := h H (Ex.refl H) _ k
def HeadLg (K : PySem.W.Frag) (pen : Addr) (m T : Nat) (H : Hp) (n : Nat) (σ : L2.St) (H1 : Hp) : Prop :=
  ∃ (L : Addr) (xs : List V) (ts : List Tr) (T' : Nat) (o o' : Option V), σ = [some (.ref pen), some (.int (m : Int)), some (.ref L), o, o'] ∧ L ≠ pen ∧ H1 L = some (.lst xs) ∧ DxAll K H1 xs (ts.map Tr.toD) ∧ ts.all Tr.ok = true ∧ sizes ts + ts.length = 2 * m + 2 ∧ ts.length = n ∧ 1 ≤ n ∧
    ExP pen H H1 ∧ PenS pen T' H1 ∧ T' + 2 * n ≤ T + 60
section
variable {P : Program} {w : World} {K : PySem.W.Frag} {mg : Str → Option Value} {base : Heap}
theorem ok_lg {f : Addr} {fd : FuncData} (F : Fun K "_law_long" "_law_long" sLg f fd) (B : Bl mg) (D : Cal P w K mg base CX0 1 "_law_draw" ["pen", "many"] spDraw) (Pk : Cal P w K mg base CX0 2 "_law_pick" ["pen", "some"] (spPick K)) : FnOk P w K mg base CX0 3 f fd ["pen", "many"] (spLg K) := by
  obtain ⟨fn, fdn, Fn, mn, kn, bn⟩ := D.ex
  obtain ⟨fp, fdp, Fp, mp, kp, bp⟩ := Pk.ex
  refine F.ok scLg (fun vs H Q E h => ?_) (fun cdv A outer s H vs Q E hr h => ?_)
  · obtain ⟨pen, m, T, rfl, _⟩ := h
    rfl
  · obtain ⟨pen, m, T, rfl, hm, hP, hT, k⟩ := h
    refine ⟨_, pss_cons (ps_setLc (i := 2) (own := [("turn", 4)]) (g := gName 4) (tt := tYes) (te := tCall (spPick K) [] E0 (tCons (tVar 0) (tCons (tLst (tCons (tC (.str "coin")) (tCons (tC (.str "a")) (tCons (tC (.str "any")) (tCons (tC (.str "no")) (tCons (tC (.str "nothing")) (tCons (tC (.str "abcdefgh")) tNil))))))) tNil))) rfl scLg.nd rfl rfl (sw_true rfl rfl rfl (by decide +kernel)) (pi_range1 (by rfl) B.range (pa_cons (pe_op op_add (pv 1) pe_int) pa_nil)) (blkOk_by (N := nLg) (sc := defScope sLg) (by decide +kernel))
        (fun _ _ _ _ _ => pg_name (i := 4) scLg.nd rfl (Or.inl rfl)) (fun _ _ _ _ _ => pts_nil) (fun _ _ _ _ _ => pe_call Fp hr (by rfl) mp kp bp .nil pass0 (pa_cons (pv 0) (pa_cons (pe_lst (pa_cons pe_str (pa_cons pe_str (pa_cons pe_str (pa_cons pe_str (pa_cons pe_str (pa_cons pe_str pa_nil))))))) pa_nil))))
      (pss_cons (ps_while PassesOwn.never (pt_cmpR op_gt (pe_callB call_len (by rfl) B.len bLen (pa_cons (pv 2) pa_nil)) pe_int (nomark _))
        (pss_cons (ps_set (i := 3) scLg.nd rfl (Or.inl rfl) (pe_call Fn (hr.mono (by decide)) (by rfl) mn kn bn .nil pass0 (pa_cons (pv 0) (pa_cons (pe_op op_sub (pe_callB call_len (by rfl) B.len bLen (pa_cons (pv 2) pa_nil)) pe_int) pa_nil))))
          (pss_one (ps_set (i := 2) scLg.nd rfl (Or.inl rfl) (pe_op op_cat (pe_op op_cat (pe_slice sl_list (pv 2) po_none (po_some (pv 3)))
              (pe_lst (pa_cons (pe_tup (pa_cons (pe_call Fp hr (by rfl) mp kp bp .nil pass0 (pa_cons (pv 0) (pa_cons (pe_lst (pa_cons pe_str (pa_cons pe_str (pa_cons pe_str (pa_cons pe_str pa_nil))))) pa_nil))) (pa_cons (pe_ix ix_seq (pv 2) (pv 3) (fun _ _ => rfl)) (pa_cons (pe_ix ix_seq (pv 2) (pe_op op_add (pv 3) pe_int) (fun _ _ => rfl)) pa_nil)))) pa_nil)))
            (pe_slice sl_list (pv 2) (po_some (pe_op op_add (pv 3) pe_int)) po_none))))))
        (pss_one (ps_ret (pe_ix ix_seq (pv 2) pe_int (fun _ _ => rfl))))), ?_⟩
    refine q_run (lg_words (ea_cons (ev_is (ev_op (ev_var rfl) ev_c rv_I0) (by push_cast; rfl)) ea_nil) (fun σ H' => ea_cons ev_c (ea_cons ev_c (ea_cons ev_c (ea_cons ev_c (ea_cons ev_c (ea_cons ev_c ea_nil)))))) hm hP hT fun L ws H1 nL h1 hl hw e1 P1 => ?_)
    refine ⟨HeadLg K pen m T H, ⟨m + 1, L, ss ws, ws.map Tr.leaf, T + (m + 1), none, none, rfl, nL, h1, dxs_leaf K H1 ws, ?_, by rw [sizes_leaf, List.length_map]; omega, by rw [List.length_map, hl], by omega, e1, P1, by omega⟩, ?_⟩
    · rw [List.all_map, List.all_eq_true]
      exact fun x hx => lg_ok x (hw x hx)
    · rintro n σ H2 ⟨L, xs, ts, T', o, o', rfl, nL, h2, hd, hok, hsz, hn, hn1, e2, P2, hT'⟩
      have hxl : xs.length = n := by rw [hd.length, List.length_map, hn]
      have hlen : Ev (tCB (rLenV K) (tCons (tVar 2) tNil)) [some (.ref pen), some (.int (m : Int)), some (.ref L), o, o'] H2 (.int ((n : Nat) : Int)) := by
        rw [← hxl]
        exact ev_lenV (ev_var rfl) (.inl (SqL.of h2))
      refine t_go (b := decide ((1 : Int) < (n : Int))) (et_test (ev_op hlen ev_c rv_I0)) fun H3 e3 => ?_
      cases hb : decide ((1 : Int) < (n : Int)) with
      | false =>
        have hb' := of_decide_eq_false hb
        have hn0 : n = 1 := by omega
        subst hn0
        match ts, xs, hd, hn, hxl with
        | [t], [x], .cons hx .nil, _, _ =>
          rw [sizes, sizes, List.length_singleton] at hsz
          rw [List.all_cons, Bool.and_eq_true] at hok
          exact iteF (s_ret (ev_op (ev_var rfl) ev_c (rv_ixQ (i := 0) (.inl (SqL.of (e3 _ _ h2))) rfl)) fun H4 e4 => k x t H4 (e2.trans (e3.trans e4).toP) ((P2.ex (e3.trans e4)).le (by omega)) (Dx.ex (e3.trans e4) _ _ hx) hok.1 (by omega))
      | true =>
        have hb' := of_decide_eq_true hb
        refine iteT ⟨fun σ' H' => ∃ m', m' < n ∧ HeadLg K pen m T H m' σ' H', fun _ _ h => h, ?_⟩
        refine q_run (draw_go (m := n - 1) rfl (ev_is (ev_op (hlen.mono e3) ev_c rv_I0) (by show V.int ((n : Int) - 1) = _; rw [show ((n : Int) - 1) = ((n - 1 : Nat) : Int) from by omega])) (by omega) (by omega) (P2.ex e3) (by omega) fun j H4 hj e4 P4 => ?_)
        have h4 := e4.1 _ _ nL (e3 _ _ h2)
        have hd4 := DxAll.exP (P2.ex e3) (plAll_toD ts) (DxAll.ex e3 _ _ hd) e4
        have c1 := el_sl (K := K) (σ := [some (.ref pen), some (.int (m : Int)), some (.ref L), some (.int (j : Int)), o']) (H := H4) (te := tVar 2) (tl := tNoPart) (th := tPart (tVar 3)) (ev_var rfl) eo_none (eo_some (i := (j : Int)) (ev_var rfl)) (SqL.of h4)
        rw [cutV_to] at c1
        refine s_run ?_
        refine c1 H4 (Ex.refl H4) _ fun p1 H5 hp1 e5 h5 => ?_
        have P5 := P4.ex e5
        refine pick_lit (ws := ["both", "gives", "pick", "or"]) rfl (ea_cons ev_c (ea_cons ev_c (ea_cons ev_c (ea_cons ev_c ea_nil)))) (by decide) (by decide) P5 (by omega) fun jn H6 hjn e6 P6 => ?_
        have n1 : p1 ≠ pen := P4.ne hp1
        have h6 := e6.1 _ _ n1 h5
        have hL6 := e6.1 _ _ nL (e5 _ _ h4)
        have hd6 := DxAll.exP P5 (plAll_toD ts) (DxAll.ex e5 _ _ hd4) e6
        obtain ⟨TA, t1, t2, TC, hts, hta⟩ : ∃ TA t1 t2 TC, ts = TA ++ t1 :: t2 :: TC ∧ TA.length = j := by
          refine ⟨ts.take j, ts[j]'(by omega), ts[j + 1]'(by omega), ts.drop (j + 2), ?_, by rw [List.length_take]; omega⟩
          rw [List.getElem_cons_drop, List.getElem_cons_drop, List.take_append_drop]
        obtain ⟨x1, hx1, d1⟩ : ∃ x, xs[j]? = some x ∧ Dx K H6 x t1.toD := by
          refine DxAll.get hd6 ?_
          rw [hts, List.map_append, List.getElem?_append_right (by rw [List.length_map, hta]; exact Nat.le_refl _), List.length_map, hta, Nat.sub_self] <;> rfl
        obtain ⟨x2, hx2, d2⟩ : ∃ x, xs[j + 1]? = some x ∧ Dx K H6 x t2.toD := by
          refine DxAll.get hd6 ?_
          rw [hts, List.map_append, List.getElem?_append_right (by rw [List.length_map, hta]; omega), List.length_map, hta, Nat.add_sub_cancel_left] <;> rfl
        have dA : DxAll K H6 (xs.take j) (TA.map Tr.toD) := by
          have q := hd6.take j
          rw [hts, List.map_append, ← hta, ← List.length_map (f := Tr.toD) (as := TA), List.take_left, List.length_map, hta] at q
          exact q
        have dC : DxAll K H6 (xs.drop (j + 2)) (TC.map Tr.toD) := by
          have q := hd6.drop (j + 2)
          have e : (ts.map Tr.toD).drop (j + 2) = TC.map Tr.toD := by
            rw [hts, List.map_append, List.drop_append, List.length_map, hta, Nat.add_sub_cancel_left, List.drop_eq_nil_of_le (by rw [List.length_map, hta]; omega)] <;> rfl
          rw [e] at q
          exact q
        refine (ev_op (σ := [some (.ref pen), some (.int (m : Int)), some (.ref L), some (.int (j : Int)), o']) (ta := tVar 2) (tb := tVar 3) (z := x1) (ev_var rfl) (ev_var rfl) (rv_ixQ (i := j) (.inl (SqL.of hL6)) hx1)) H6 (Ex.refl H6) _ fun H7 e7 => ?_
        refine (ev_op (σ := [some (.ref pen), some (.int (m : Int)), some (.ref L), some (.int (j : Int)), o']) (ta := tVar 2) (tb := tOp (rI0 fun i j => .int (i + j)) (tVar 3) (tC (.int 1))) (y := .int ((j + 1 : Nat) : Int)) (z := x2) (ev_var rfl) (ev_is (ev_op (ev_var rfl) ev_c rv_I0) (by push_cast; rfl)) (rv_ixQ (i := j + 1) (.inl (SqL.of (e7 _ _ hL6))) hx2)) H7 (Ex.refl H7) _ fun H8 e8 => ?_
        refine ⟨(by show 3 ≤ sizeLine; decide), fun tp htp => ⟨(by show 1 ≤ sizeLine; decide), fun lp hlp => ?_⟩⟩
        have eX : Ex H6 (upd (upd H8 tp (.tup [.str jn, x1, x2])) lp (.lst [.ref tp])) := (e7.trans e8).trans ((Ex.new htp).trans (Ex.new hlp))
        have gl : upd (upd H8 tp (.tup [.str jn, x1, x2])) lp (.lst [.ref tp]) lp = some (.lst [.ref tp]) := upd_same
        have gt : upd (upd H8 tp (.tup [.str jn, x1, x2])) lp (.lst [.ref tp]) tp = some (.tup [.str jn, x1, x2]) := Ex.new hlp _ _ upd_same
        generalize upd (upd H8 tp (.tup [.str jn, x1, x2])) lp (.lst [.ref tp]) = H9 at eX gl gt
        have lt1 : (xs.take j).length ≤ 30 := by rw [List.length_take]; omega
        have lt2 : (xs.drop (j + 2)).length ≤ 30 := by rw [List.length_drop]; omega
        refine ⟨p1, lp, xs.take j, [.ref tp], rfl, rfl, eX _ _ h6, gl, Nat.le_of_lt (sz1000 (by rw [List.length_singleton]; omega)), fun p2 hp2 => ?_⟩
        have eY : Ex H9 (upd H9 p2 (.lst (xs.take j ++ [.ref tp]))) := Ex.new hp2
        have g2 : upd H9 p2 (.lst (xs.take j ++ [.ref tp])) p2 = some (.lst (xs.take j ++ [.ref tp])) := upd_same
        generalize upd H9 p2 (.lst (xs.take j ++ [.ref tp])) = H10 at eY g2
        have c2 := el_sl (K := K) (σ := [some (.ref pen), some (.int (m : Int)), some (.ref L), some (.int (j : Int)), o']) (H := H10) (te := tVar 2) (tl := tPart (tOp (rI0 fun i j => .int (i + j)) (tVar 3) (tC (.int 2)))) (th := tNoPart) (ev_var rfl) (eo_some (i := ((j + 2 : Nat) : Int)) (ev_is (ev_op (ev_var rfl) ev_c rv_I0) (by push_cast; rfl))) eo_none (SqL.of ((eX.trans eY) _ _ hL6))
        rw [cutV_from] at c2
        refine c2 H10 (Ex.refl H10) _ fun p3 H11 hp3 e11 h11 => ?_
        refine ⟨p2, p3, xs.take j ++ [.ref tp], xs.drop (j + 2), rfl, rfl, e11 _ _ g2, h11, Nat.le_of_lt (sz1000 (by rw [List.length_append, List.length_singleton]; omega)), fun L2 hL2 => ?_⟩
        have eZ : Ex H6 (upd H11 L2 (.lst (xs.take j ++ [.ref tp] ++ xs.drop (j + 2)))) := ((eX.trans eY).trans e11).trans (Ex.new hL2)
        have P11 := P6.ex ((eX.trans eY).trans e11)
        rw [hts, List.all_append, List.all_cons, List.all_cons, Bool.and_eq_true, Bool.and_eq_true, Bool.and_eq_true] at hok
        have hl2 : TA.length + (TC.length + 1 + 1) = n := by
          have q := congrArg List.length hts
          rw [List.length_append, List.length_cons, List.length_cons, hn] at q
          exact q.symm
        refine ⟨n - 1, by omega, L2, _, TA ++ .node jn t1 t2 :: TC, T' + 2, some (.int (j : Int)), o', rfl, P11.ne hL2, upd_same, ?_, ?_, ?_, ?_, by omega, e2.trans (e3.toP.trans (e4.trans (e5.toP.trans (e6.trans eZ.toP)))), (P6.ex eZ).le (by omega), by omega⟩
        · have q := (DxAll.ex eZ _ _ dA).append (.cons (.tup (st_of (((eY.trans e11).trans (Ex.new hL2)) _ _ gt)) (.cons (.str jn) (.cons (Dx.ex eZ _ _ d1) (.cons (Dx.ex eZ _ _ d2) .nil)))) (DxAll.ex eZ _ _ dC))
          rw [List.append_cons (xs.take j) (V.ref tp) (xs.drop (j + 2))] at q
          rw [List.map_append, List.map_cons]
          exact q
        · rw [List.all_append, List.all_cons, hok.1, Tr.ok, lg_joins jn hjn, hok.2.1, hok.2.2.1, hok.2.2.2] <;> rfl
        · rw [hts, sizes_append, List.length_append] at hsz
          rw [sizes_append, List.length_append]
          simp only [sizes, List.length_cons, Tr.size] at hsz ⊢
          omega
        · rw [List.length_append, List.length_cons]
          omega
end
end K2
set_option Elab.async false
set_option linter.all false
set_option maxRecDepth 100000
set_option maxHeartbeats 4000000
namespace K2
open PySem L2 Evl
/-! ### no statement -/
def Never (d : PyData) : Prop := ∀ n ds, chk n (d :: ds) = false
theorem never_in {d : PyData} (h : Never d) : ∀ n as ds, chk n (as ++ d :: ds) = false
  | n, [], ds => h n ds
  | 0, t :: as, ds => rfl
  | n + 1, t :: as, ds => by
    rw [List.cons_append, chk]
    cases stepD t with
    | none => rfl
    | some cs =>
      show chk n (cs ++ (as ++ d :: ds)) = false
      rw [← List.append_assoc]
      exact never_in h n _ _
theorem never_none {d : PyData} (h : stepD d = none) : Never d := fun n ds => by
  cases n with
  | zero => rfl
  | succ n => rw [chk, h]
theorem never_row {w : Str} {a b : PyData} (h : Never a ∨ Never b) : Never (.tuple [.str w, a, b]) := fun n ds => by
  cases n with
  | zero => rfl
  | succ n =>
    have e : stepD (.tuple [.str w, a, b]) = if inV (.str w) (ss joins) then some [a, b] else none := rfl
    rw [chk, e]
    split
    · rfl
    · rename_i cs hc
      split at hc
      · cases hc
        rcases h with h | h
        · exact never_in h n [] _
        · exact never_in h n [a] _
      · cases hc
theorem Never.chk {d : PyData} (h : Never d) : K2.chk 24 [d] = false := h 24 []
mutual
/-- no lists at all -/
def noL : PyData → Bool
  | .list _ => false
  | .tuple ds => noLs ds
  | .none => true
  | .bool _ => true
  | .int _ => true
  | .str _ => true
  | .dict _ => true
def noLs : List PyData → Bool
  | [] => true
  | d :: ds => noL d && noLs ds
end
mutual
theorem noL_pl : ∀ d, noL d = true → pl d = true
  | .list _, h => by cases h
  | .tuple ds, h => noLs_pl ds h
  | .none, _ => rfl
  | .bool _, _ => rfl
  | .int _, _ => rfl
  | .str _, _ => rfl
  | .dict _, _ => rfl
theorem noLs_pl : ∀ ds, noLs ds = true → plAll ds = true
  | [], _ => rfl
  | d :: ds, h => by
    rw [noLs, Bool.and_eq_true] at h
    rw [plAll, noL_pl d h.1, noLs_pl ds h.2] <;> rfl
end
theorem noL_toD : ∀ t : Tr, noL t.toD = true
  | .leaf x => rfl
  | .node w a b => by
    rw [Tr.toD, noL, noLs, noLs, noLs, noL_toD a, noL_toD b] <;> rfl
section
variable {K : PySem.W.Frag} {H : Hp} {D : Addr} {ys : List V} {o : HO}
mutual
theorem Dx.updL (hD : H D = some (.lst ys)) : ∀ (d : PyData) (v : V), noL d = true → Dx K H v d → Dx K (upd H D o) v d
  | .none, _, _, h => by cases h; exact .non
  | .bool b, _, _, h => by cases h; exact .bl b
  | .int i, _, _, h => by cases h; exact .int i
  | .str x, _, _, h => by cases h; exact .str x
  | .list ds, _, l, h => by cases l
  | .tuple ds, _, l, h => by
    cases h with
    | tup hs ha => exact .tup (sqT_upd hs hD) (DxAll.updL hD ds _ l ha)
  | .dict kvs, _, _, h => by
    cases h with
    | dct ha => exact .dct (by rw [upd_ne (ne_of ha hD (by intro z; cases z))]; exact ha)
theorem DxAll.updL (hD : H D = some (.lst ys)) : ∀ (ds : List PyData) (vs : List V), noLs ds = true → DxAll K H vs ds → DxAll K (upd H D o) vs ds
  | [], _, _, h => by cases h; exact .nil
  | d :: ds, _, l, h => by
    rw [noLs, Bool.and_eq_true] at l
    cases h with
    | cons h1 h2 => exact .cons (Dx.updL hD d _ l.1 h1) (DxAll.updL hD ds _ l.2 h2)
end
end
/-! ### lists of data written out -/
def EvDs (K : PySem.W.Frag) (ta : TA) (σ : L2.St) (H : Hp) (ds : List PyData) : Prop := ∀ H1, Ex H H1 → ∀ Q : List V → Hp → Prop, (∀ vs H2, Ex H1 H2 → DxAll K H2 vs ds → Q vs H2) → ta σ H1 Q
section
variable {K : PySem.W.Frag} {σ : L2.St} {H : Hp} {te : TE} {ta : TA} {d : PyData} {ds : List PyData} {v : V}
theorem eds_nil : EvDs K tNil σ H [] := fun H1 _ Q q => q [] H1 (Ex.refl H1) .nil
theorem eds_cons (h : EvD K te σ H d) (hr : EvDs K ta σ H ds) : EvDs K (tCons te ta) σ H (d :: ds) := fun H1 e Q q =>
  h H1 e _ fun u H2 e2 hu => hr H2 (e.trans e2) _ fun vs H3 e3 hv => q _ H3 (e2.trans e3) (.cons (Dx.ex e3 _ _ hu) hv)
theorem evd_c (h : ∀ H', Dx K H' v d) : EvD K (tC v) σ H d := fun H1 _ Q q => q v H1 (Ex.refl H1) (h H1)
theorem evd_tup (h : EvDs K ta σ H ds) (hz : ds.length ≤ 1000) : EvD K (tTup ta) σ H (.tuple ds) := fun H1 e Q q =>
  h H1 e _ fun vs H2 e2 hv => ⟨Nat.le_of_lt (sz1000 (by rw [hv.length]; omega)), fun p hp => q _ _ (e2.trans (Ex.new hp)) (.tup (st_of upd_same) (DxAll.ex (Ex.new hp) _ _ hv))⟩
theorem evd_dict : EvD K tDNewK σ H (.dict []) := fun H1 e Q q => fun p hp => q _ _ (Ex.new hp) (.dct upd_same)
end
def bads : List PyData := [.none, .int 5, .bool true, .str "", .str "Coin", .str "both", .str "ninesigns", .str "give", .str "left", .str "a b", .tuple [], .tuple [.str "both"], .tuple [.str "both", .str "a"], .tuple [.str "and", .str "a", .str "b"], .tuple [.str "both", .str "a", .str "b", .str "c"], .tuple [.str "gives", .str "a", .none], .dict [], .tuple [.str "any", .str "a", .str "b"], .tuple [.none, .str "a", .str "b"], .tuple [.tuple [.str "both"], .str "a", .str "b"]]
def neverB : PyData → Bool
  | .tuple [.str w, a, b] => (stepD (.tuple [.str w, a, b])).isNone || (stepD b).isNone
  | d => (stepD d).isNone
theorem neverB_ok {d : PyData} (h : neverB d = true) : Never d := by
  unfold neverB at h
  split at h
  · rcases Bool.or_eq_true_iff.mp h with h | h
    · exact never_none (Option.isNone_iff_eq_none.mp h)
    · exact never_row (.inr (never_none (Option.isNone_iff_eq_none.mp h)))
  · exact never_none (Option.isNone_iff_eq_none.mp h)
theorem bads_ok : (bads.all fun d => neverB d && noL d && tame d && decide (nodes d ≤ 6)) = true := by decide +kernel
theorem bad_at {d : PyData} (h : d ∈ bads) : Never d ∧ noL d = true ∧ tame d = true ∧ nodes d ≤ 6 := by
  have q := List.all_eq_true.mp bads_ok d h
  simp only [Bool.and_eq_true, decide_eq_true_eq] at q
  exact ⟨neverB_ok q.1.1.1, q.1.1.2, q.1.2, q.2⟩
theorem inV_ss {x : Str} {l : List Str} (h : inV (.str x) (ss l) = true) : x ∈ l := by
  unfold inV at h
  rw [List.any_eq_true] at h
  obtain ⟨y, hy, e⟩ := h
  obtain ⟨z, hz, rfl⟩ := List.mem_map.mp hy
  have e' : (z == x) = true := e
  rw [← eq_of_beq e']
  exact hz
theorem leaf_short {x : Str} (h : (inV (.str x) (ss bare) || isName x) = true) : x.length ≤ 8 := by
  rcases Bool.or_eq_true_iff.mp h with h | h
  · have hb : ∀ y ∈ bare, y.length ≤ 8 := by decide +kernel
    exact hb x (inV_ss h)
  · unfold isName at h
    simp only [Bool.and_eq_true, Bool.not_eq_true', Bool.or_eq_false_iff, Bool.not_eq_false', decide_eq_true_eq] at h
    omega
theorem join_short {x : Str} (h : inV (.str x) (ss joins) = true) : x.length ≤ 8 := by
  have hb : ∀ y ∈ joins, y.length ≤ 8 := by decide +kernel
  exact hb x (inV_ss h)
theorem ok_tame : ∀ t : Tr, t.ok = true → tame t.toD = true
  | .leaf x, h => by
    show decide (x.length ≤ 1000) = true
    have := leaf_short h
    exact decide_eq_true (by omega)
  | .node w a b, h => by
    rw [Tr.ok, Bool.and_eq_true, Bool.and_eq_true] at h
    have h1 : decide (w.length ≤ 1000) = true := decide_eq_true (by have := join_short h.1; omega)
    rw [Tr.toD, tame, tameAll, tameAll, tameAll, ok_tame a h.2.1, ok_tame b h.2.2]
    show (decide (w.length ≤ 1000) && _) = true
    rw [h1] <;> rfl
theorem q_runG {te : TE} {σ : L2.St} {H : Hp} {D : Ends} {tz : TS} {g : TG} (h : te σ H fun v H1 => g v σ H1 (tz D)) : tSeq (tAsg te g) tz D σ H := h
theorem or_go {t u : TT} {σ : L2.St} {H : Hp} {Q : Bool → Hp → Prop} (h : EvT t σ H false) (k : ∀ H1, Ex H H1 → u σ H1 Q) : tOr t u σ H Q := h H (Ex.refl H) _ fun H1 e => k H1 e
theorem q_ifrun {t : TT} {tu tw tz : TS} {D : Ends} {σ : L2.St} {H : Hp} (h : t σ H fun c H1 => if c = true then tu { D with nx := tz D } σ H1 else tw { D with nx := tz D } σ H1) : tSeq (tIfS t tu tw) tz D σ H := h
/-! ### _law_bent -/
abbrev sLb : Stmt := top 59
def spLb (K : PySem.W.Frag) (n : Nat) : Sp := fun vs H Q _ => ∃ (pen : Addr) (v : V) (t : Tr) (T : Nat), vs = [.ref pen, v] ∧ Dx K H v t.toD ∧ t.ok = true ∧ t.size ≤ n ∧ PenS pen T H ∧ T + 4 * t.size < 1000000 ∧
  ∀ (u : V) (d : PyData) H', ExP pen H H' → PenS pen (T + 4 * t.size) H' → Dx K H' u d → Never d → noL d = true → tame d = true → nodes d ≤ 2 * t.size + 6 → Q u H'
def nLb : List Str := ["pen", "statement", "bad", "at", "row"]
theorem scLb : FnScope nLb ["pen", "statement"] (defScope sLb) := ⟨rfl, rfl, rfl, by decide +kernel, rfl, by decide +kernel, by decide +kernel⟩
/-- one of a list's data, drawn -/
theorem pick_dat {K : PySem.W.Frag} {σ : L2.St} {H : Hp} {Q : VK} {pen : Addr} {T i : Nat} {ds : List PyData} {tw : TA} (hi : σ[i]? = some (some (.ref pen))) (ha : EvDs K tw σ H ds) (hn : noLs ds = true) (h0 : 0 < ds.length) (h1 : ds.length < 1000) (hP : PenS pen T H) (hT : T < 1000000)
    (k : ∀ (x : V) d H', d ∈ ds → Dx K H' x d → ExP pen H H' → PenS pen (T + 1) H' → Q x H') : tCall (spPick K) [] E0 (tCons (tVar i) (tCons (tLst tw) tNil)) σ H Q := by
  refine ⟨.ref pen, hi, ha H (Ex.refl H) _ fun vs H1 e1 hd => ⟨Nat.le_of_lt (sz1000 (by rw [hd.length]; omega)), fun p hp => ?_⟩⟩
  have hl := hd.length
  have e2 : Ex H (upd H1 p (.lst vs)) := e1.trans (Ex.new hp)
  refine ⟨pen, p, vs, T, rfl, ?_, by omega, by omega, hP.ex e2, hT, fun n x H' hx e3 P3 => ?_⟩
  · exact .inl (.inl (by rw [noP_at ((hP.ex e1).ne hp)]; exact upd_same))
  · obtain ⟨d, h2, h3⟩ := (DxAll.ex (Ex.new (o := .lst vs) hp) _ _ (DxAll.ex (Ex.refl _) _ _ hd)).getV hx
    have hpl : pl d = true := by
      have key : ∀ l : List PyData, noLs l = true → ∀ d ∈ l, noL d = true := by
        intro l
        induction l with
        | nil => intro _ d h; cases h
        | cons a l ih =>
          intro h d hd
          rw [noLs, Bool.and_eq_true] at h
          rcases List.mem_cons.mp hd with z | z
          · rw [z]; exact h.1
          · exact ih h.2 d z
      exact noL_pl d (key ds hn d (List.mem_of_getElem? h2))
    exact k x d H' (List.mem_of_getElem? h2) (Dx.exP (hP.ex e2) hpl h3 e3) (e2.toP.trans e3) P3
section
variable {P : Program} {w : World} {K : PySem.W.Frag} {mg : Str → Option Value} {base : Heap}
theorem ok_lb {f : Addr} {fd : FuncData} (F : Fun K "_law_bent" "_law_bent" sLb f fd) (B : Bl mg) (hm : mg "_law_bent" = some (.ref f)) (hk : PySem.W.keepIn K (.ref f) = true) (hb : Binds K fd ["pen", "statement"] [])
    (D : Cal P w K mg base CX0 1 "_law_draw" ["pen", "many"] spDraw) (Pk : Cal P w K mg base CX0 2 "_law_pick" ["pen", "some"] (spPick K)) : ∀ n, FnOk P w K mg base CX0 (n + 4) f fd ["pen", "statement"] (spLb K n) := by
  obtain ⟨fn, fdn, Fn, mn, kn, bn⟩ := D.ex
  obtain ⟨fp, fdp, Fp, mp, kp, bp⟩ := Pk.ex
  intro n
  induction n with
  | zero =>
    refine F.ok (k := 3) scLb (fun vs H Q E h => ?_) (fun cdv A outer s H vs Q E hr h => ?_)
    · obtain ⟨pen, v, t, T, rfl, _⟩ := h
      rfl
    · obtain ⟨pen, v, t, T, rfl, _, _, hz, _⟩ := h
      have := t.size_pos
      omega
  | succ n ih =>
    refine F.ok scLb (fun vs H Q E h => ?_) (fun cdv A outer s H vs Q E hr h => ?_)
    · obtain ⟨pen, v, t, T, rfl, _⟩ := h
      rfl
    · obtain ⟨pen, v, t, T, rfl, hd, hok, hz, hP, hT, k⟩ := h
      refine ⟨_, pss_cons (ps_set (i := 2) scLb.nd rfl (Or.inl rfl) (pe_call Fp (hr.mono (by omega)) (by rfl) mp kp bp .nil pass0 (pa_cons (pv 0) (pa_cons (pe_lst (pa_cons pe_non (pa_cons pe_int (pa_cons pe_bl (pa_cons pe_str (pa_cons pe_str (pa_cons pe_str (pa_cons pe_str (pa_cons pe_str (pa_cons pe_str (pa_cons pe_str
            (pa_cons (pe_tup pa_nil) (pa_cons (pe_tup (pa_cons pe_str pa_nil)) (pa_cons (pe_tup (pa_cons pe_str (pa_cons pe_str pa_nil))) (pa_cons (pe_tup (pa_cons pe_str (pa_cons pe_str (pa_cons pe_str pa_nil)))) (pa_cons (pe_tup (pa_cons pe_str (pa_cons pe_str (pa_cons pe_str (pa_cons pe_str pa_nil))))) (pa_cons (pe_tup (pa_cons pe_str (pa_cons pe_str (pa_cons pe_non pa_nil))))
            (pa_cons pe_dnewK (pa_cons (pe_tup (pa_cons pe_str (pa_cons pe_str (pa_cons pe_str pa_nil)))) (pa_cons (pe_tup (pa_cons pe_non (pa_cons pe_str (pa_cons pe_str pa_nil)))) (pa_cons (pe_tup (pa_cons (pe_tup (pa_cons pe_str pa_nil)) (pa_cons pe_str (pa_cons pe_str pa_nil)))) pa_nil))))))))))))))))))))) pa_nil))))
        (pss_cons (ps_if (pw_or (pt_val (pe_callB call_isi (by rfl) B.isi bIsi (pa_cons (pv 1) (pa_cons (pe_bltn (v := .ty "str") (by rfl) B.str bStr rfl) pa_nil)))) (pw_or1 (pt_cmpR op_eq (pe_call Fn (hr.mono (by omega)) (by rfl) mn kn bn .nil pass0 (pa_cons (pv 0) (pa_cons pe_int pa_nil))) pe_int (nomark _)))).pt (pss_one (ps_ret (pv 2))) pss_nil)
          (pss_cons (ps_set (i := 3) scLb.nd rfl (Or.inl rfl) (pe_op op_add pe_int (pe_call Fn (hr.mono (by omega)) (by rfl) mn kn bn .nil pass0 (pa_cons (pv 0) (pa_cons pe_int pa_nil)))))
            (pss_cons (ps_set (i := 4) scLb.nd rfl (Or.inl rfl) (pe_callTy call_list_of (by rfl) B.list (by decide +kernel) (pa_cons (pv 1) pa_nil)))
              (pss_cons (ps_asg (pe_call ih hr (by rfl) hm hk hb .nil pass0 (pa_cons (pv 0) (pa_cons (pe_ix ix_seq (pv 1) (pv 3) (fun _ _ => rfl)) pa_nil))) (pg_sub (pv 4) (pv 3) set_list))
                (pss_one (ps_ret (pe_tupleOf (by rfl) B.tuple (pv 4)))))))), ?_⟩
      have hsp := t.size_pos
      refine q_run (pick_dat (ds := bads) rfl (eds_cons (evd_c fun _ => .non) (eds_cons (evd_c fun _ => .int 5) (eds_cons (evd_c fun _ => .bl true) (eds_cons (evd_c fun _ => .str _) (eds_cons (evd_c fun _ => .str _) (eds_cons (evd_c fun _ => .str _) (eds_cons (evd_c fun _ => .str _) (eds_cons (evd_c fun _ => .str _) (eds_cons (evd_c fun _ => .str _) (eds_cons (evd_c fun _ => .str _)
        (eds_cons (evd_tup eds_nil (by decide)) (eds_cons (evd_tup (eds_cons (evd_c fun _ => .str _) eds_nil) (by decide)) (eds_cons (evd_tup (eds_cons (evd_c fun _ => .str _) (eds_cons (evd_c fun _ => .str _) eds_nil)) (by decide)) (eds_cons (evd_tup (eds_cons (evd_c fun _ => .str _) (eds_cons (evd_c fun _ => .str _) (eds_cons (evd_c fun _ => .str _) eds_nil))) (by decide))
        (eds_cons (evd_tup (eds_cons (evd_c fun _ => .str _) (eds_cons (evd_c fun _ => .str _) (eds_cons (evd_c fun _ => .str _) (eds_cons (evd_c fun _ => .str _) eds_nil)))) (by decide)) (eds_cons (evd_tup (eds_cons (evd_c fun _ => .str _) (eds_cons (evd_c fun _ => .str _) (eds_cons (evd_c fun _ => .non) eds_nil))) (by decide))
        (eds_cons evd_dict (eds_cons (evd_tup (eds_cons (evd_c fun _ => .str _) (eds_cons (evd_c fun _ => .str _) (eds_cons (evd_c fun _ => .str _) eds_nil))) (by decide)) (eds_cons (evd_tup (eds_cons (evd_c fun _ => .non) (eds_cons (evd_c fun _ => .str _) (eds_cons (evd_c fun _ => .str _) eds_nil))) (by decide))
        (eds_cons (evd_tup (eds_cons (evd_tup (eds_cons (evd_c fun _ => .str _) eds_nil) (by decide)) (eds_cons (evd_c fun _ => .str _) (eds_cons (evd_c fun _ => .str _) eds_nil))) (by decide)) eds_nil)))))))))))))))))))) (by decide +kernel) (by decide) (by decide) hP (by omega) fun bd dB H1 hdB hbd e1 P1 => ?_)
      obtain ⟨b1, b2, b3, b4⟩ := bad_at hdB
      have hd1 := Dx.exP hP (pl_toD t) hd e1
      refine q_ifrun ?_
      cases hbx : isTxt t.toD with
      | true =>
        refine t_go (b := true) (et_is (et_or (a := true) (b := false) (et_B (by rw [← hbx]; exact ev_isTxt (ev_var rfl) hd1)) (fun z => nomatch z)) rfl) fun H2 e2 => iteT ?_
        exact ⟨bd, rfl, k bd dB H2 (e1.trans e2.toP) ((P1.ex e2).le (by omega)) (Dx.ex e2 _ _ hbd) b1 b2 b3 (by omega)⟩
      | false =>
        refine or_go (et_B (by rw [← hbx]; exact ev_isTxt (ev_var rfl) hd1)) fun H2 e2 => ?_
        refine draw_go (m := 3) rfl ev_c (by decide) (by decide) (P1.ex e2) (by omega) fun j H3 hj e3 P3 => ⟨rfl, _, rfl, ?_⟩
        cases decide (V.int (j : Int) = V.int 0) with
        | true =>
          exact iteT ⟨bd, rfl, k bd dB H3 (e1.trans (e2.toP.trans e3)) (P3.le (by omega)) (Dx.exP (P1.ex e2) (noL_pl dB b2) (Dx.ex e2 _ _ hbd) e3) b1 b2 b3 (by omega)⟩
        | false =>
          refine iteF ?_
          cases t with
          | leaf x => cases hbx
          | node w1 a b =>
            obtain ⟨c, r, hp⟩ := hP.at
            obtain ⟨p, z1, z2, rfl, hsq, h1, h2⟩ := node_at (Dx.noP hp _ v (pl_toD _) hd)
            rw [Tr.ok, Bool.and_eq_true, Bool.and_eq_true] at hok
            have zz : (Tr.node w1 a b).size = 1 + a.size + b.size := rfl
            have hwl : decide (w1.length ≤ 1000) = true := decide_eq_true (by have := join_short hok.1; omega)
            have na := size_nodes a.isT
            have nb := size_nodes b.isT
            have ta := ok_tame a hok.2.1
            have tb := ok_tame b hok.2.2
            refine q_run (te := tOp (rI0 fun i j => .int (i + j)) (tC (.int 1)) (tCall spDraw [] E0 (tCons (tVar 0) (tCons (tC (.int 2)) tNil)))) ?_
            refine draw_go (m := 2) rfl ev_c (by decide) (by decide) P3 (by omega) fun j2 H4 hj2 e4 P4 => ⟨_, _, rfl, rfl, ?_⟩
            have p4 : ExP pen H H4 := e1.trans (e2.toP.trans (e3.trans e4))
            refine q_run ⟨.ref p, rfl, p, _, rfl, sq_ex p4.ex hsq, fun l hl => ?_⟩
            have e5 : Ex H4 (upd H4 l (.lst [.str w1, z1, z2])) := Ex.new hl
            have gl : upd H4 l (.lst [.str w1, z1, z2]) l = some (.lst [.str w1, z1, z2]) := upd_same
            have nl : l ≠ pen := P4.ne hl
            generalize upd H4 l (.lst [.str w1, z1, z2]) = H5 at e5 gl
            have p5 : ExP pen H H5 := p4.trans e5.toP
            have hj' : j2 = 0 ∨ j2 = 1 := by omega
            rcases hj' with rfl | rfl
            · refine q_runG (call_go (ea_cons (ev_var rfl) (ea_cons (ev_op (y := .int ((1 : Nat) : Int)) (ev_var rfl) (ev_is (ev_var rfl) (by rfl)) (rv_ixQ (i := 1) (sq_ex p5.ex hsq) rfl)) ea_nil)) fun H6 e6' => ⟨pen, z1, a, T + 3, rfl, Dx.ex (p5.ex.trans e6') _ _ h1, hok.2.1, by omega, (P4.ex (e5.trans e6')).le (by omega), by omega, fun uN dN H7 e6b P7 k0 k1 k2 k3 k4 => ?_⟩)
              have e6 : ExP pen H5 H6 := e6'.toP
              have e7 : Ex H7 H7 := Ex.refl H7
              have g7 := (e6.trans e6b).1 _ _ nl gl
              refine ⟨.ref l, rfl, .int (1 : Int), rfl, l, _, (1 : Int), 1, rfl, rfl, g7, (show ixN 3 1 = some 1 by decide), ?_⟩
              refine ⟨.ref l, rfl, .inl ⟨l, _, rfl, SqL.of upd_same, fun q hq => ?_⟩⟩
              have pz : ExP pen H (upd H7 l (.lst ([V.str w1, z1, z2].set 1 uN))) := p4.trans (((e5.toP.trans (e6.trans e6b))).upd hl)
              have Pz : PenS pen (T + 3 + 4 * a.size) (upd H7 l (.lst ([V.str w1, z1, z2].set 1 uN))) := P4.upd (e5.toP.trans (e6.trans e6b)) P7 hl
              refine k (.ref q) (.tuple [.str w1, dN, b.toD]) _ (pz.trans (Ex.new hq).toP) ((Pz.ex (Ex.new hq)).le (by omega)) (.tup (st_of upd_same) (.cons (.str w1) (.cons (Dx.ex (Ex.new hq) _ _ (Dx.updL g7 _ _ k2 (Dx.ex e7 _ _ k0))) (.cons (Dx.ex (Ex.new hq) _ _ (Dx.updL g7 _ _ (noL_toD b) (Dx.ex (p5.trans ((e6.trans (e6b.trans e7.toP)))).ex _ _ h2))) .nil)))) (never_row (.inl k1)) ?_ ?_ ?_
              · simp only [noL, noLs, k2, noL_toD, Bool.and_true, Bool.and_self]
              · simp only [tame, tameAll, k3, ta, tb, hwl, Bool.and_true, Bool.and_self]
              · simp only [nodes, nodesAll] at *
                omega
            · refine q_runG (call_go (ea_cons (ev_var rfl) (ea_cons (ev_op (y := .int ((2 : Nat) : Int)) (ev_var rfl) (ev_is (ev_var rfl) (by rfl)) (rv_ixQ (i := 2) (sq_ex p5.ex hsq) rfl)) ea_nil)) fun H6 e6' => ⟨pen, z2, b, T + 3, rfl, Dx.ex (p5.ex.trans e6') _ _ h2, hok.2.2, by omega, (P4.ex (e5.trans e6')).le (by omega), by omega, fun uN dN H7 e6b P7 k0 k1 k2 k3 k4 => ?_⟩)
              have e6 : ExP pen H5 H6 := e6'.toP
              have e7 : Ex H7 H7 := Ex.refl H7
              have g7 := (e6.trans e6b).1 _ _ nl gl
              refine ⟨.ref l, rfl, .int (2 : Int), rfl, l, _, (2 : Int), 2, rfl, rfl, g7, (show ixN 3 2 = some 2 by decide), ?_⟩
              refine ⟨.ref l, rfl, .inl ⟨l, _, rfl, SqL.of upd_same, fun q hq => ?_⟩⟩
              have pz : ExP pen H (upd H7 l (.lst ([V.str w1, z1, z2].set 2 uN))) := p4.trans (((e5.toP.trans (e6.trans e6b))).upd hl)
              have Pz : PenS pen (T + 3 + 4 * b.size) (upd H7 l (.lst ([V.str w1, z1, z2].set 2 uN))) := P4.upd (e5.toP.trans (e6.trans e6b)) P7 hl
              refine k (.ref q) (.tuple [.str w1, a.toD, dN]) _ (pz.trans (Ex.new hq).toP) ((Pz.ex (Ex.new hq)).le (by omega)) (.tup (st_of upd_same) (.cons (.str w1) (.cons (Dx.ex (Ex.new hq) _ _ (Dx.updL g7 _ _ (noL_toD a) (Dx.ex (p5.trans ((e6.trans (e6b.trans e7.toP)))).ex _ _ h1))) (.cons (Dx.ex (Ex.new hq) _ _ (Dx.updL g7 _ _ k2 (Dx.ex e7 _ _ k0))) .nil)))) (never_row (.inr k1)) ?_ ?_ ?_
              · simp only [noL, noLs, k2, noL_toD, Bool.and_true, Bool.and_self]
              · simp only [tame, tameAll, k3, ta, tb, hwl, Bool.and_true, Bool.and_self]
              · simp only [nodes, nodesAll] at *
                omega
end
end K2
set_option Elab.async false
set_option linter.all false
set_option maxRecDepth 100000
set_option maxHeartbeats 4000000
/-! own: the end of a law whose def is walked at the caller's own place (repr asks what is being shown); LamX.law_callTs turned -/
namespace LamG
open PySem PySem.Spec PyProof.Rows L2 LamX
theorem law_callG {P : Program} {w : World} {K : PySem.W.Frag} {mg mb : Str → Option Value} {fa a : Addr} {cs : List (Addr × Addr)} {s₁ : Shared} {vs : List Value} {ns : List Int}
    (KX : K.In s₁.heap) (hns : s₁.heap.Ns mainGlobals mg) (hb : s₁.heap.Ns builtinsNs mb) (hbb : ∀ x : Str, x ≠ "__name__" → mb x = bootBuiltins x) (hlim : s₁.heap.NoLimit) (hg : s₁.gens = #[])
    (hT : ∀ p ∈ cs, s₁.heap.get? p.2 = some { cls := .none, data := .fields #[] }) (nT : ∀ p ∈ cs, K.lookup p.2 = none) (C : ∀ p ∈ cs, PySem.W.CodeHd s₁.heap p.1 p.2)
    (hbm : ∃ (bm : Addr) (ob : Obj), mg "__builtins__" = some (.ref bm) ∧ bm ≠ builtinsNs ∧ s₁.heap.get? bm = some ob ∧ ob.cls = .type "module" ∧ ob.dict = some builtinsNs ∧ ob.data = .plain)
    (ha : s₁.heap.get? a = some { cls := .type "list", data := .seq vs.toArray }) (hi : IntsAre vs ns) (hl : ns.length ≤ sizeLine) 
    (F : ∀ (base : Heap) (H : Hp), K.In base → base.Ns mainGlobals mg → (∀ p ∈ cs, TabB base mg p.1 p.2) → Env0 P w K mg base callerA [] s₁ H → (∀ p ∈ cs, H p.2 = some (.tbl #[])) → SqL K H a (ns.map V.int) →
      codeAny (model P w) callerA (.call (.ref fa) ⟨[.ref a], []⟩) (CR C8.CX0 [] P w H s₁ (fun v _ => v = .bl true) C8.E0) s₁) :
    codeAny (model P w) callerA (.call (.ref fa) ⟨[.ref a], []⟩) (fun r s' => r = .ok (.ret (.bool true)) ∧ OldK s₁.heap s'.heap ∧ s'.os = s₁.os ∧ AllBare s'.gens) s₁ := by
  have rv := vals_ints hi
  have lenV := hi.length
  have isT : ∀ b : Addr, b ∈ cs.map (·.2) → s₁.heap.get? b = some { cls := .none, data := .fields #[] } := fun b hb => by
    obtain ⟨p, hp, e⟩ := List.mem_map.mp hb
    rw [← e]
    exact hT p hp
  have aT : a ∉ cs.map (·.2) := fun z => by
    have q := isT a z
    rw [ha] at q
    have z' : Data.seq vs.toArray _ = Data.fields #[] := congrArg Obj.data (Option.some.inj q)
    cases z'
  have memT : ∀ p ∈ cs, p.2 ∈ cs.map (·.2) := fun p hp => List.mem_map.mpr ⟨p, hp, rfl⟩
  -- from an abstract heap in which nothing but the script and the tables may be tracked
  have core : ∀ H : Hp, (∀ p ∈ cs, H p.2 = some (.tbl #[])) → (∀ b, H b = none ∨ b ∈ cs.map (·.2) ∨ ∃ o xs, H b = some (.frz o (.lst xs))) → SqL K H a (ns.map V.int) → HOk P w H s₁.heap → (∀ b, H b ≠ none → b = a ∨ b ∈ cs.map (·.2)) → (H a ≠ none → K.lookup a = none) →
      codeAny (model P w) callerA (.call (.ref fa) ⟨[.ref a], []⟩) (fun r s' => r = .ok (.ret (.bool true)) ∧ OldK s₁.heap s'.heap ∧ s'.os = s₁.os ∧ AllBare s'.gens) s₁ := by
    intro H hH hO hS hok hA hK
    have base_of : ∀ {b : Addr} {o : Obj}, s₁.heap.get? b = some o → H b = none → (hidT s₁.heap H).get? b = some o := fun e n => hidT_get e n
    have noD : ∀ {b : Addr} {o : Obj}, s₁.heap.get? b = some o → (∀ vs n, o.data ≠ .seq vs n) → o.data ≠ .fields #[] → H b = none := fun {b o} e h1 h2 => by
      cases q : H b with
      | none => rfl
      | some u =>
        rcases hA b (by rw [q]; simp) with e' | e'
        · rw [e', ha] at e
          cases e
          exact (h1 _ _ rfl).elim
        · rw [isT b e'] at e
          cases e
          exact (h2 rfl).elim
    have noA : ∀ {b : Addr} {o : Obj} {es : Array DictEntry} {ep : Nat}, s₁.heap.get? b = some o → o.data = .dict es ep → H b = none := fun {b o es ep} e d => by
      refine noD e (fun vs n z => ?_) fun z => ?_
      · rw [d] at z
        cases z
      · rw [d] at z
        cases z
    have nsK : ∀ {b : Addr} {m : Str → Option Value}, s₁.heap.Ns b m → (hidT s₁.heap H).Ns b m := fun {b m} ⟨o, es, ep, e, d, r⟩ => ⟨o, es, ep, base_of e (noA e d), d, r⟩
    have hKb : K.In (hidT s₁.heap H) := fun b o e => base_of (KX b o e) (by
      cases q : H b with
      | none => rfl
      | some u =>
        rcases hA b (by rw [q]; simp) with e' | e'
        · rw [e'] at e q
          rw [hK (by rw [q]; simp)] at e
          cases e
        · obtain ⟨p, hp, ep⟩ := List.mem_map.mp e'
          rw [← ep, nT p hp] at e
          cases e)
    have hM : L2.Mod K mg (hidT s₁.heap H) := ⟨hKb, nsK hns, ⟨mb, nsK hb, hbb⟩, let ⟨mc, h1, h2⟩ := hlim; ⟨mc, nsK h1, h2⟩⟩
    have TB : ∀ p ∈ cs, TabB (hidT s₁.heap H) mg p.1 p.2 := fun p hp => by
      have hTp := hT p hp
      refine ⟨?_, ?_, fun z => ?_⟩
      · obtain ⟨o, us, file, tf, flags, tg, inF, text, tt, e1, r1, r2, r3, r4, r5, r6, r7, r8, hne⟩ := C p hp
        refine ⟨o, us, file, tf, flags, tg, inF, text, tt, base_of e1 (noD e1 (fun vs n z => ?_) fun z => ?_), r1, r2, r3, r4, r5, r6, r7, r8, hne⟩
        · rw [r2] at z
          cases z
        · rw [r2] at z
          cases z
          simp at r3
      · obtain ⟨bm, ob, b1, b2, b3, b4, b5, b6⟩ := hbm
        have nG : bm ≠ mainGlobals := fun q => by
          obtain ⟨o, es, ep, e, hd, _⟩ := hns
          rw [q, e] at b3
          cases b3
          rw [hd] at b6
          cases b6
        have nP : bm ≠ p.2 := fun q => by
          rw [q, hTp] at b3
          cases b3
          cases b6
        refine ⟨bm, ob, b1, b2, nG, nP, base_of b3 (noD b3 (fun vs n z => ?_) fun z => ?_), b4, b5, b6⟩
        · rw [b6] at z
          cases z
        · rw [b6] at z
          cases z
      · obtain ⟨o, es, ep, e, hd, _⟩ := hns
        rw [z, hTp] at e
        cases e
        cases hd
    have e0 : Env0 P w K mg (hidT s₁.heap H) callerA [] s₁ H := ⟨rfl, hM, fun b o e => of_hidT e, Nat.le_of_eq (hidT_size _ _), trivial, fun b hb => absurd (show b ∈ ([] : List Addr) from hb) (by simp), hok, .of_eq hg⟩
    refine codeAny_mono (F _ H hKb (nsK hns) TB e0 hH hS) fun r s' h => ?_
    cases r with
    | error e => exact (show False from h).elim
    | ok fl =>
      cases fl with
      | next => exact False.elim h
      | brk => exact False.elim h
      | cont => exact False.elim h
      | ret u =>
        obtain ⟨v, H', os, bare, un, hok', r', q⟩ := h
        have q' : v = .bl true := q
        subst q'
        obtain rfl : u = Value.bool true := r'
        have key : ∀ b o, b ∉ cs.map (·.2) → s₁.heap.get? b = some o → s'.heap.get? b = some o := fun b o nb e => by
          cases q : H b with
          | none => exact un.keep b o e q (by intro z; exact absurd (show b ∈ ([] : List Addr) from z) (by simp)) (by simp)
          | some u =>
            rcases hO b with z | z | ⟨ob, xs, z⟩
            · rw [q] at z; cases z
            · exact absurd z nb
            · have z2 := un.frzs b ob _ z
              obtain ⟨e1, _⟩ := hok b _ z
              obtain ⟨e2, _⟩ := hok' b _ z2
              rw [e] at e1; cases e1
              exact e2
        have grown : ∀ p ∈ cs, ∃ more : Array Value, s'.heap.get? p.2 = some { cls := .none, data := .fields more } := fun p hp => by
          obtain ⟨more, z⟩ := un.tbls p.2 #[] (hH p hp)
          exact ⟨_, hok' p.2 _ z⟩
        refine ⟨rfl, ⟨fun b o e => ?_, fun b o e => ?_⟩, os, bare⟩
        · by_cases hb : b ∈ cs.map (·.2)
          · obtain ⟨p, hp, ep⟩ := List.mem_map.mp hb
            obtain ⟨more, hm⟩ := grown p hp
            rw [← ep] at e ⊢
            rw [hT p hp] at e
            cases e
            exact .inr (.inl ⟨((C p hp).tab (hT p hp)).isCodeTable, rfl, #[], more, rfl, by rw [Array.empty_append]; exact hm⟩)
          · exact .inl (key b o hb e)
        · by_cases hb : b ∈ cs.map (·.2)
          · obtain ⟨p, hp, ep⟩ := List.mem_map.mp hb
            obtain ⟨more, hm⟩ := grown p hp
            rw [← ep]
            exact ⟨_, hm⟩
          · exact ⟨o, key b o hb e⟩
  cases hk : K.lookup a with
  | some o =>
    have e := KX a o hk
    rw [ha] at e
    cases e
    refine core (fun b => if b ∈ cs.map (·.2) then some (.tbl #[]) else none) (fun p hp => if_pos (memT p hp)) (fun b => ?_) (.inr ⟨_, vs.toArray, _, hk, rfl, rfl, rfl, by rw [List.size_toArray, lenV]; exact hl, by simpa using rv⟩) (fun b u z => ?_) (fun b z => ?_) fun z => absurd (show (if a ∈ cs.map (·.2) then some (HO.tbl #[]) else none) = none from if_neg aT) z
    · by_cases hb : b ∈ cs.map (·.2)
      · exact .inr (.inl hb)
      · exact .inl (if_neg hb)
    · by_cases hb : b ∈ cs.map (·.2)
      · have z' := (if_pos hb).symm.trans z
        cases z'
        exact isT b hb
      · have z' := (if_neg hb).symm.trans z
        cases z'
    · by_cases hb : b ∈ cs.map (·.2)
      · exact .inr hb
      · exact absurd (if_neg hb) z
  | none =>
    refine core (fun b => if b = a then some (.frz { cls := .type "list", data := .seq vs.toArray } (.lst (ns.map V.int))) else if b ∈ cs.map (·.2) then some (.tbl #[]) else none) (fun p hp => (if_neg (show ¬ p.2 = a from fun z => aT (by rw [← z]; exact memT p hp))).trans (if_pos (memT p hp))) (fun b => ?_)
      (.inl (.inr ⟨{ cls := .type "list", data := .seq vs.toArray }, if_pos rfl⟩)) (fun b u z => ?_) (fun b z => ?_) fun _ => hk
    · by_cases hb : b = a
      · exact .inr (.inr ⟨_, _, if_pos hb⟩)
      · by_cases hb2 : b ∈ cs.map (·.2)
        · exact .inr (.inl hb2)
        · exact .inl ((if_neg hb).trans (if_neg hb2))
    · by_cases hb : b = a
      · have z' := (if_pos hb).symm.trans z
        cases z'
        rw [hb]
        exact ⟨ha, by rw [List.length_map]; exact hl, vs, _, rv, ha⟩
      · have z1 := (if_neg hb).symm.trans z
        by_cases hb2 : b ∈ cs.map (·.2)
        · have z' := (if_pos hb2).symm.trans z1
          cases z'
          exact isT b hb2
        · have z' := (if_neg hb2).symm.trans z1
          cases z'
    · by_cases hb : b = a
      · exact .inl hb
      · by_cases hb2 : b ∈ cs.map (·.2)
        · exact .inr hb2
        · exact absurd ((if_neg hb).trans (if_neg hb2)) z

def LawAtG (l : PySem.W.OpenLaw) (w : World) (K : PySem.W.Frag) (n : Nat) (mg : Str → Option Value) (fa : Addr) (h : Heap) : Prop :=
  ∃ cs : List (Addr × Addr), (∀ p ∈ cs, h.get? p.2 = some { cls := .none, data := .fields #[] }) ∧ (∀ p ∈ cs, K.lookup p.2 = none) ∧ (∀ p ∈ cs, PySem.W.CodeHd h p.1 p.2) ∧
    ∀ (s : Shared) (base : Heap) (H : Hp) (a : Addr) (ns : List Int), ns.length ≤ n → K.In base → base.Ns mainGlobals mg → (∀ p ∈ cs, TabB base mg p.1 p.2) → Env0 l.prog w K mg base callerA [] s H → (∀ p ∈ cs, H p.2 = some (.tbl #[])) → SqL K H a (ns.map V.int) →
      codeAny (model l.prog w) callerA (.call (.ref fa) ⟨[.ref a], []⟩) (CR C8.CX0 [] l.prog w H s (fun v _ => v = .bl true) C8.E0) s
theorem walk_ofG {l : PySem.W.OpenLaw} {n : Nat} {q : Program} {loose : List Str} {XP : (Str → Option Value) → Heap → Prop} {YP : World → Heap → Prop} {d : DefRec} {K : Params → PySem.W.Frag}
    (hn : l.most = some n) (hn2 : n ≤ sizeLine) (hdf : d.params.defaults = []) (hrec : ((recsOf q).any fun e => e.name == d.name) = true) (hY : ∀ (w : World) (h : Heap), YP w h → (K w.params).In h)
    (F : ∀ (w : World) (mg : Str → Option Value) (fa : Addr) (h : Heap), YP w h → (K w.params).In h → h.Ns mainGlobals mg → mg d.name = some (.ref fa) → OwnTab (K w.params) fa h → LawAtG l w (K w.params) n mg fa h) :
    PySem.W.WalkO q loose XP YP l.row.toRowW d [] (fun f vs => PySem.call f vs) := by
  refine Att.attach_callB hn hdf fun w s₀ s₁ mg mb fa o pm cd doc a vs ns G Y ho hd hcd hmg hobj hints hlen hbits hg => ?_
  have KX := hY w _ Y
  have own : OwnTab (K w.params) fa s₁.heap := fun c P o1 fd1 e dd vs1 sl k1 k2 k3 k4 k5 => by
    obtain ⟨dL, hm, hn1⟩ := List.any_eq_true.mp hrec
    have hn2 : dL.name = d.name := beq_iff_eq.mp hn1
    obtain ⟨a', o', fd', c', P', h1, h2, h3, h4, h5, h6⟩ := G.T.tab dL hm
    rw [hn2, hmg] at h1
    cases h1
    have g1 := KX _ _ k1
    rw [g1] at h2
    cases h2
    rw [k2] at h3
    cases h3
    rw [k3] at h4
    cases h4
    obtain ⟨⟨oc, vc, e1, _, e3, e4⟩, hP⟩ := h6
    have g2 := KX _ _ k4
    rw [g2] at e1
    cases e1
    cases e3
    rw [k5] at e4
    cases e4
    exact hP
  obtain ⟨cs, hT, nT, C, hF⟩ := F w mg fa _ Y KX G.T.g hmg own
  exact law_callG KX G.T.g G.T.b G.T.builtins G.T.nolimit hg hT nT C G.T.bmain hobj hints (Nat.le_trans hlen hn2) fun base H h1 h2 h3 h4 h5 h6 => hF s₁ base H a ns hlen h1 h2 h3 h4 h5 h6
end LamG
set_option Elab.async false
set_option linter.all false
set_option maxRecDepth 100000
set_option maxHeartbeats 4000000
namespace K2
open PySem L2 Evl LamX
/-! ### data that may be shown -/
def plain (x : Str) : Bool := x.cps.toList.all fun c => decide (c < 1000)
theorem plain_short {x : Str} (h : plain x = true) : (x.cps.toList.all fun c => decide (c < 16 ^ 8)) = true := by
  unfold plain at h
  rw [List.all_eq_true] at h ⊢
  intro c hc
  have h1 := of_decide_eq_true (h c hc)
  have e : (16 : Nat) ^ 8 = 4294967296 := by decide
  exact decide_eq_true (by omega)
theorem plain_ok {x : Str} (h : plain x = true) : PyData.strOk x = true := by
  unfold plain at h
  show x.cps.all (· < 0x110000) = true
  rw [Array.all_eq_true_iff_forall_mem]
  rw [List.all_eq_true] at h
  intro c hc
  have h1 := of_decide_eq_true (h c (by simpa using hc))
  exact decide_eq_true (by omega)
mutual
def fine : PyData → Bool
  | .list ds => fines ds
  | .tuple ds => fines ds
  | .none => true
  | .bool _ => true
  | .int i => decide ((PyData.shown (.int i)).length ≤ 13) && decide (i.natAbs.log2 < 1920)
  | .str x => plain x
  | .dict _ => false
def fines : List PyData → Bool
  | [] => true
  | d :: ds => fine d && fines ds
end
mutual
theorem fine_showable : ∀ d, fine d = true → d.showable = true
  | .list ds, h => by rw [PyData.showable]; exact fines_showable ds h
  | .tuple ds, h => by rw [PyData.showable]; exact fines_showable ds h
  | .none, _ => by rw [PyData.showable]
  | .bool _, _ => by rw [PyData.showable]
  | .int i, h => by
    rw [fine, Bool.and_eq_true] at h
    rw [PyData.showable]
    exact h.2
  | .str x, _ => by rw [PyData.showable]
  | .dict _, h => by cases h
theorem fines_showable : ∀ ds, fines ds = true → PyData.showableAll ds = true
  | [], _ => by rw [PyData.showableAll]
  | d :: ds, h => by
    rw [fines, Bool.and_eq_true] at h
    rw [PyData.showableAll, fine_showable d h.1, fines_showable ds h.2] <;> rfl
end
mutual
theorem fine_nodict : ∀ d, fine d = true → d.hasDict = false
  | .list ds, h => by rw [PyData.hasDict]; exact fines_nodict ds h
  | .tuple ds, h => by rw [PyData.hasDict]; exact fines_nodict ds h
  | .none, _ => by rw [PyData.hasDict]
  | .bool _, _ => by rw [PyData.hasDict]
  | .int i, h => by rw [PyData.hasDict]
  | .str x, _ => by rw [PyData.hasDict]
  | .dict _, h => by cases h
theorem fines_nodict : ∀ ds, fines ds = true → PyData.hasDictAll ds = false
  | [], _ => by rw [PyData.hasDictAll]
  | d :: ds, h => by
    rw [fines, Bool.and_eq_true] at h
    rw [PyData.hasDictAll, fine_nodict d h.1, fines_nodict ds h.2] <;> rfl
end
mutual
theorem fine_short : ∀ d, fine d = true → d.leavesShort 13 = true
  | .list ds, h => by rw [PyData.leavesShort]; exact fines_short ds h
  | .tuple ds, h => by rw [PyData.leavesShort]; exact fines_short ds h
  | .none, _ => by rw [PyData.leavesShort]
  | .bool _, _ => by rw [PyData.leavesShort]
  | .int i, h => by
    rw [fine, Bool.and_eq_true] at h
    rw [PyData.leavesShort]
    exact h.1
  | .str x, h => by
    rw [PyData.leavesShort]
    exact plain_short h
  | .dict _, h => by cases h
theorem fines_short : ∀ ds, fines ds = true → PyData.leavesShortAll 13 ds = true
  | [], _ => by rw [PyData.leavesShortAll]
  | d :: ds, h => by
    rw [fines, Bool.and_eq_true] at h
    rw [PyData.leavesShortAll, fine_short d h.1, fines_short ds h.2] <;> rfl
end
mutual
theorem fine_lay : ∀ d, fine d = true → d.canLay0 = true
  | .list ds, h => by rw [PyData.canLay0]; exact fines_lay ds h
  | .tuple ds, h => by rw [PyData.canLay0]; exact fines_lay ds h
  | .none, _ => by rw [PyData.canLay0]
  | .bool _, _ => by rw [PyData.canLay0]
  | .int i, h => by rw [PyData.canLay0]
  | .str x, h => by
    rw [PyData.canLay0]
    exact plain_ok h
  | .dict _, h => by cases h
theorem fines_lay : ∀ ds, fines ds = true → PyData.canLayAll0 ds = true
  | [], _ => by rw [PyData.canLayAll0]
  | d :: ds, h => by
    rw [fines, Bool.and_eq_true] at h
    rw [PyData.canLayAll0, fine_lay d h.1, fines_lay ds h.2] <;> rfl
end
section
variable {K : PySem.W.Frag} {H : Hp}
mutual
theorem Dx.dp : ∀ (d : PyData) (v : V), fine d = true → Dx K H v d → Dp K H v d
  | .none, _, _, h => by cases h; exact .non
  | .bool b, _, _, h => by cases h; exact .bl b
  | .int i, _, _, h => by cases h; exact .int i
  | .str x, _, _, h => by cases h; exact .str x
  | .list ds, _, l, h => by
    cases h with
    | lst hs ha => exact .lst hs (DxAll.dp ds _ l ha)
  | .tuple ds, _, l, h => by
    cases h with
    | tup hs ha => exact .tup hs (DxAll.dp ds _ l ha)
  | .dict kvs, _, l, h => by cases l
theorem DxAll.dp : ∀ (ds : List PyData) (vs : List V), fines ds = true → DxAll K H vs ds → DpAll K H vs ds
  | [], _, _, h => by cases h; exact .nil
  | d :: ds, _, l, h => by
    rw [fines, Bool.and_eq_true] at l
    cases h with
    | cons h1 h2 => exact .cons (Dx.dp d _ l.1 h1) (DxAll.dp ds _ l.2 h2)
end
end
/-- repr of such data (X: a context in which nothing is being shown) -/
def rRepr (K : PySem.W.Frag) : List V → Hp → VK → Prop := fun xs H Q => ∃ (a : Addr) (d : PyData), xs = [.ref a] ∧ Dx K H (.ref a) d ∧ fine d = true ∧ d.depth ≤ 60 ∧ d.bulk ≤ 1000000 ∧ Q (.str d.shown) H
theorem call_reprD {X : Cx} (hg : X.A.guards = some []) (hu : X.A.units + 64 < cLine) : CallR X (.builtin "repr") (rRepr X.K) := by
  intro pins s σ H xs us Q I r h
  obtain ⟨a, d, rfl, hd, hf, hdp, hb, q⟩ := h
  cases r with
  | cons rx rr =>
    cases rr
    cases rx
    obtain ⟨as, rd⟩ := Dp.reads I d _ (.ref a) (Dx.dp d _ hf hd) rfl
    refine PySem.repr_of_reads' rd (fine_showable d hf) (fun z => by rw [fine_nodict d hf] at z; cases z) hg (by omega) (fun b o e => e) (fun h' u tk hk => ?_) (PyData.shown_fits_bulk (B := 13) (by decide) (by decide) (fine_short d hf) (by omega))
    exact ⟨.str d.shown, H, I.kept (t' := tk) hk, ⟨u, rfl⟩, q⟩
/-! ### the law's heap: without the pen and the tables -/
def cl (pen : Addr) (H : Hp) : Hp := fun a => if a = pen then none else match H a with
  | some (.tbl _) => none
  | o => o
theorem cl_of {pen a : Addr} {H : Hp} {o : HO} (n : a ≠ pen) (h : H a = some o) (t : ∀ ps, o ≠ .tbl ps) : cl pen H a = some o := by
  unfold cl
  rw [if_neg n, h]
  cases o with
  | tbl ps => exact absurd rfl (t ps)
  | _ => rfl
theorem cl_at {pen a : Addr} {H : Hp} {o : HO} (h : cl pen H a = some o) : a ≠ pen ∧ H a = some o ∧ ∀ ps, o ≠ .tbl ps := by
  unfold cl at h
  split at h
  · cases h
  · rename_i n
    refine ⟨n, ?_⟩
    cases e : H a with
    | none => rw [e] at h; cases h
    | some u =>
      rw [e] at h
      cases u with
      | tbl ps => cases h
      | _ =>
        cases h
        exact ⟨rfl, fun ps z => nomatch z⟩
theorem cl_ex (pen : Addr) (H : Hp) : Ex (cl pen H) H := fun a o h => (cl_at h).2.1
theorem cl_exP {pen : Addr} {H H' : Hp} (e : ExP pen H H') : Ex (cl pen H) (cl pen H') := fun a o h => by
  obtain ⟨h1, h2, h3⟩ := cl_at h
  exact cl_of h1 (e.1 a o h1 h2) h3
theorem cl_exN {pen : Addr} {H H' : Hp} (e : ExtN H H') : Ex (cl pen H) (cl pen H') := fun a o h => by
  obtain ⟨h1, h2, h3⟩ := cl_at h
  exact cl_of h1 (e a o h2 h3) h3
theorem Ex.cl {pen : Addr} {H H' : Hp} (e : Ex H H') : Ex (K2.cl pen H) (K2.cl pen H') := cl_exP e.toP
section
variable {K : PySem.W.Frag} {H H' : Hp} {pen c : Addr} {ys : List V}
theorem sqT_cl {a : Addr} {xs ys : List V} (hp : H pen = some (.lst ys)) (h : SqT K H a xs) : SqT K (cl pen H) a xs := by
  rcases h with (h | ⟨u, h⟩) | h
  · exact .inl (.inl (cl_of (ne_of h hp (by intro z; cases z)) h fun ps z => nomatch z))
  · exact .inl (.inr ⟨u, cl_of (ne_of h hp (by intro z; cases z)) h fun ps z => nomatch z⟩)
  · exact .inr h
theorem sqL_cl {a c : Addr} {ys xs : List V} (hp : H pen = some (.lst (.ref c :: ys))) (h : SqL K H a xs) (hx : ∀ r, xs ≠ .ref c :: r) : SqL K (cl pen H) a xs := by
  rcases h with (h | ⟨u, h⟩) | h
  · refine .inl (.inl (cl_of ?_ h fun ps z => nomatch z))
    intro z
    rw [z, hp] at h
    injection h with h
    injection h with h
    exact hx _ h.symm
  · exact .inl (.inr ⟨u, cl_of (ne_of h hp (by intro z; cases z)) h fun ps z => nomatch z⟩)
  · exact .inr h
mutual
theorem Dx.cl (hp : H pen = some (.lst (.ref c :: ys))) : ∀ (d : PyData) (v : V), pl d = true → Dx K H v d → Dx K (K2.cl pen H) v d
  | .none, _, _, h => by cases h; exact .non
  | .bool b, _, _, h => by cases h; exact .bl b
  | .int i, _, _, h => by cases h; exact .int i
  | .str x, _, _, h => by cases h; exact .str x
  | .list ds, _, l, h => by
    cases h with
    | lst hs ha =>
      rw [pl, Bool.and_eq_true] at l
      refine .lst (sqL_cl hp hs fun r z => ?_) (DxAll.cl hp ds _ l.2 ha)
      rw [z] at ha
      cases ha with
      | cons h1 h2 =>
        cases h1 <;> exact Bool.noConfusion (show false = true from l.1)
  | .tuple ds, _, l, h => by
    cases h with
    | tup hs ha => exact .tup (sqT_cl hp hs) (DxAll.cl hp ds _ l ha)
  | .dict kvs, _, _, h => by
    cases h with
    | dct ha => exact .dct (cl_of (ne_of ha hp (by intro z; cases z)) ha fun ps z => nomatch z)
theorem DxAll.cl (hp : H pen = some (.lst (.ref c :: ys))) : ∀ (ds : List PyData) (vs : List V), plAll ds = true → DxAll K H vs ds → DxAll K (K2.cl pen H) vs ds
  | [], _, _, h => by cases h; exact .nil
  | d :: ds, _, l, h => by
    rw [plAll, Bool.and_eq_true] at l
    cases h with
    | cons h1 h2 => exact .cons (Dx.cl hp d _ l.1 h1) (DxAll.cl hp ds _ l.2 h2)
end
end
/-- the law's state: the pen, the table -/
structure LW (P : Addr) (q : Str) (pen : Addr) (T : Nat) (H : Hp) : Prop where
  pen : PenS pen T H
  tab : TabS H P q
section
variable {P : Addr} {q : Str} {pen : Addr} {T T' : Nat} {H H' : Hp}
theorem LW.ex (h : LW P q pen T H) (e : Ex H H') : LW P q pen T H' := ⟨h.pen.ex e, h.tab.ext e⟩
theorem LW.le (h : LW P q pen T H) (l : T ≤ T') : LW P q pen T' H := ⟨h.pen.le l, h.tab⟩
theorem LW.exP (h : LW P q pen T H) (e : ExP pen H H') (p : PenS pen T' H') : LW P q pen T' H' := by
  obtain ⟨c, r, hp⟩ := h.pen.at
  obtain ⟨ps, h1, h2, h3⟩ := h.tab
  refine ⟨p, ps, e.1 _ _ (fun z => ?_) h1, h2, fun pos cv hc => ?_⟩
  · rw [z, hp] at h1
    cases h1
  · obtain ⟨k, e1, e2⟩ := h3 pos cv hc
    refine ⟨k, e1, e.1 _ _ (fun z => ?_) e2⟩
    rw [z, hp] at e2
    cases e2
theorem LW.exN (h : LW P q pen T H) (e : ExtN H H') (t : TabS H' P q) : LW P q pen T H' := by
  obtain ⟨c, cs, n, r, h1, h2, h3⟩ := h.pen
  exact ⟨⟨c, cs, n, r, e _ _ h1 (fun ps z => nomatch z), e _ _ h2 (fun ps z => nomatch z), h3⟩, t⟩
theorem LW.dx {K : PySem.W.Frag} {d : PyData} {v : V} (h : LW P q pen T H) (l : pl d = true) (hd : Dx K H v d) : Dx K (cl pen H) v d := by
  obtain ⟨c, r, hp⟩ := h.pen.at
  exact Dx.cl hp d v l hd
end
end K2
set_option Elab.async false
set_option linter.all false
set_option maxRecDepth 100000
set_option maxHeartbeats 4000000
namespace K2
open PySem L2 Evl LamX PyProof.Rows
/-! ### sorted texts are told by their members -/
def leS (x y : Str) : Prop := x.cps.toList ≤ y.cps.toList
theorem rising_pw : ∀ (l : List Str) (p : Str), risingS p l = true → (∀ x ∈ l, leS p x) ∧ l.Pairwise leS
  | [], _, _ => ⟨(fun x h => by cases h), .nil⟩
  | x :: r, p, h => by
    rw [risingS, Bool.and_eq_true, Bool.not_eq_true', ltCps_eq] at h
    have h1 : leS p x := List.not_lt.mp (of_decide_eq_false h.1)
    obtain ⟨g1, g2⟩ := rising_pw r x h.2
    refine ⟨fun y hy => ?_, .cons g1 g2⟩
    rcases List.mem_cons.mp hy with z | z
    · rw [z]; exact h1
    · exact List.le_trans h1 (g1 y z)
theorem sorted_pw {l : List Str} (h : sortedS l = true) : l.Pairwise leS := by
  cases l with
  | nil => exact .nil
  | cons x r => exact .cons (rising_pw r x h).1 (rising_pw r x h).2
theorem leS_anti {x y : Str} (h1 : leS x y) (h2 : leS y x) : x = y := by
  have e := List.le_antisymm h1 h2
  cases x with | mk x => cases y with | mk y =>
    congr 1
    exact Array.toList_inj.mp e
theorem pw_eq : ∀ {l m : List Str}, l.Pairwise leS → m.Pairwise leS → l.Perm m → l = m
  | [], m, _, _, p => p.nil_eq
  | x :: l, [], _, _, p => absurd p.eq_nil (by simp)
  | x :: l, y :: m, .cons h1 h2, .cons g1 g2, p => by
    have e : x = y := by
      rcases List.mem_cons.mp (p.mem_iff.mp List.mem_cons_self) with z | z
      · exact z
      · rcases List.mem_cons.mp (p.mem_iff.mpr (List.mem_cons_self (a := y))) with z2 | z2
        · exact z2.symm
        · exact leS_anti (h1 y z2) (g1 x z)
    subst e
    rw [pw_eq h2 g2 p.cons_inv]
theorem nodup_le {l m : List Str} (h : l.Nodup) (s : ∀ x ∈ l, x ∈ m) : l.length ≤ m.length := by
  by_cases z : m.length ≤ l.length
  · rw [(TxS.perm_of_sub h s z).length_eq]
    exact Nat.le_refl _
  · omega
theorem sorted_same {l m : List Str} (h1 : l.Nodup) (h2 : m.Nodup) (h : ∀ x, x ∈ l ↔ x ∈ m) (s1 : sortedS l = true) (s2 : sortedS m = true) : l = m :=
  pw_eq (sorted_pw s1) (sorted_pw s2) (TxS.perm_of_sub h1 (fun x hx => (h x).mp hx) (nodup_le h2 fun x hx => (h x).mpr hx)).symm
/-! ### how great the data is -/
theorem plain_all {l : List Str} (h : (l.all plain) = true) {x : Str} (hx : x ∈ l) : plain x = true := List.all_eq_true.mp h x hx
theorem leaf_plain {x : Str} (h : (inV (.str x) (ss bare) || isName x) = true) : plain x = true := by
  rcases Bool.or_eq_true_iff.mp h with h | h
  · exact plain_all (l := bare) (by decide +kernel) (inV_ss h)
  · unfold isName at h
    rw [Bool.and_eq_true] at h
    unfold plain
    rw [List.all_eq_true] at h ⊢
    intro c hc
    have h2 := of_decide_eq_true (h.2 c hc)
    have key : ∀ c ∈ letters.cps.toList, c < 1000 := by decide +kernel
    exact decide_eq_true (key c h2)
theorem join_plain {x : Str} (h : inV (.str x) (ss joins) = true) : plain x = true := plain_all (l := joins) (by decide +kernel) (inV_ss h)
theorem ok_fine : ∀ t : Tr, t.ok = true → fine t.toD = true
  | .leaf x, h => leaf_plain h
  | .node w a b, h => by
    rw [Tr.ok, Bool.and_eq_true, Bool.and_eq_true] at h
    rw [Tr.toD, fine, fines, fines, fines, ok_fine a h.2.1, ok_fine b h.2.2]
    show (plain w && _) = true
    rw [join_plain h.1] <;> rfl
theorem ok_depth : ∀ t : Tr, t.toD.depth + 1 ≤ t.size
  | .leaf x => by rw [Tr.toD, PyData.depth, Tr.size]; omega
  | .node w a b => by
    have h1 := ok_depth a
    have h2 := ok_depth b
    simp only [Tr.toD, PyData.depth, PyData.depthAll, Tr.size]
    omega
theorem ok_bulk : ∀ t : Tr, t.ok = true → t.toD.bulk ≤ 11 * t.size
  | .leaf x, h => by
    have := leaf_short h
    have e : x.cps.size = x.length := rfl
    simp only [Tr.toD, PyData.bulk, Tr.size]
    omega
  | .node w a b, h => by
    rw [Tr.ok, Bool.and_eq_true, Bool.and_eq_true] at h
    have h1 := ok_bulk a h.2.1
    have h2 := ok_bulk b h.2.2
    have h3 := join_short h.1
    have e : w.cps.size = w.length := rfl
    simp only [Tr.toD, PyData.bulk, PyData.bulkAll, Tr.size]
    omega
theorem parts_ok : ∀ t : Tr, t.ok = true → ∀ p ∈ t.parts, p.ok = true ∧ p.size ≤ t.size
  | .leaf x, h, p, hp => by
    rw [Tr.parts, List.mem_singleton] at hp
    rw [hp]
    exact ⟨h, Nat.le_refl _⟩
  | .node w a b, h, p, hp => by
    have h0 := h
    rw [Tr.ok, Bool.and_eq_true, Bool.and_eq_true] at h
    rw [Tr.size]
    rcases List.mem_cons.mp hp with z | hp
    · rw [z]
      exact ⟨h0, by rw [Tr.size]; omega⟩
    · rcases List.mem_append.mp hp with hp | hp
      · have := parts_ok a h.2.1 p hp
        exact ⟨this.1, by omega⟩
      · have := parts_ok b h.2.2 p hp
        exact ⟨this.1, by omega⟩
theorem word_ok : ∀ t : Tr, t.ok = true → t.word.length ≤ 8 ∧ plain t.word = true
  | .leaf x, h => ⟨leaf_short h, leaf_plain h⟩
  | .node w a b, h => by
    rw [Tr.ok, Bool.and_eq_true] at h
    exact ⟨join_short h.1, join_plain h.1⟩
theorem fines_of {ds : List PyData} (h : ∀ d ∈ ds, fine d = true) : fines ds = true := by
  induction ds with
  | nil => rfl
  | cons d ds ih => rw [fines, h d List.mem_cons_self, ih fun e he => h e (List.mem_cons_of_mem _ he)] <;> rfl
theorem bulk_of {ds : List PyData} {b : Nat} (h : ∀ d ∈ ds, d.bulk ≤ b) : PyData.bulkAll ds ≤ (b + 1) * ds.length := by
  induction ds with
  | nil => exact Nat.zero_le _
  | cons d ds ih =>
    have h1 := h d List.mem_cons_self
    have h2 := ih fun e he => h e (List.mem_cons_of_mem _ he)
    rw [PyData.bulkAll, List.length_cons, Nat.mul_succ]
    omega
theorem depth_of {ds : List PyData} {b : Nat} (h : ∀ d ∈ ds, d.depth ≤ b) : PyData.depthAll ds ≤ b := by
  induction ds with
  | nil => exact Nat.zero_le _
  | cons d ds ih =>
    have h1 := h d List.mem_cons_self
    have h2 := ih fun e he => h e (List.mem_cons_of_mem _ he)
    rw [PyData.depthAll]
    omega
/-- small data: to be shown, to be compared -/
structure Sm (d : PyData) (k b : Nat) : Prop where
  fine : fine d = true
  depth : d.depth ≤ k
  bulk : d.bulk ≤ b
theorem Sm.tup {ds : List PyData} {k b n : Nat} (h : ∀ d ∈ ds, Sm d k b) (hn : ds.length ≤ n) : Sm (.tuple ds) (k + 1) ((b + 1) * n) := by
  refine ⟨by rw [K2.fine]; exact fines_of fun d hd => (h d hd).fine, ?_, ?_⟩
  · rw [PyData.depth]
    have := depth_of fun d hd => (h d hd).depth
    omega
  · rw [PyData.bulk]
    exact Nat.le_trans (bulk_of fun d hd => (h d hd).bulk) (Nat.mul_le_mul_left _ hn)
theorem Sm.lst {ds : List PyData} {k b n : Nat} (h : ∀ d ∈ ds, Sm d k b) (hn : ds.length ≤ n) : Sm (.list ds) (k + 1) ((b + 1) * n) := by
  refine ⟨by rw [K2.fine]; exact fines_of fun d hd => (h d hd).fine, ?_, ?_⟩
  · rw [PyData.depth]
    have := depth_of fun d hd => (h d hd).depth
    omega
  · rw [PyData.bulk]
    exact Nat.le_trans (bulk_of fun d hd => (h d hd).bulk) (Nat.mul_le_mul_left _ hn)
theorem Sm.mono {d : PyData} {k b k' b' : Nat} (h : Sm d k b) (h1 : k ≤ k') (h2 : b ≤ b') : Sm d k' b' := ⟨h.fine, Nat.le_trans h.depth h1, Nat.le_trans h.bulk h2⟩
theorem sm_str {x : Str} {n : Nat} (h : plain x = true) (hn : x.length ≤ n) : Sm (.str x) 0 n := ⟨h, by rw [PyData.depth]; exact Nat.le_refl _, by rw [PyData.bulk]; exact hn⟩
theorem int_fine : ∀ n : Nat, n < 100 → fine (.int (n : Int)) = true := by decide +kernel
theorem sm_int {n : Nat} (h : n < 100) : Sm (.int (n : Int)) 0 0 := ⟨int_fine n h, by rw [PyData.depth]; exact Nat.le_refl _, by rw [PyData.bulk]; exact Nat.le_refl _⟩
theorem sm_tree {t : Tr} (h : t.ok = true) (hz : t.size ≤ 25) : Sm t.toD 24 275 := by
  have h1 := ok_depth t
  have h2 := ok_bulk t h
  exact ⟨ok_fine t h, by omega, by omega⟩
theorem sm_parts {t : Tr} (h : t.ok = true) (hz : t.size ≤ 25) : Sm (.tuple (t.parts.map Tr.toD)) 25 6900 := by
  refine (Sm.tup (k := 24) (b := 275) (n := 25) (fun d hd => ?_) (by rw [List.length_map, t.parts_len]; exact hz)).mono (Nat.le_refl _) (by decide)
  obtain ⟨p, hp, rfl⟩ := List.mem_map.mp hd
  obtain ⟨g1, g2⟩ := parts_ok t h p hp
  exact sm_tree g1 (by omega)
theorem isKind_word {t : Tr} (h : t.isKind = true) : t = .leaf t.word := by
  cases t with
  | leaf x => rfl
  | node w a b => cases h
theorem KdS.len {t : Tr} {ks : List Str} (h : KdS t ks) : ks.length ≤ t.size := by
  have q := nodup_le (m := t.parts.map Tr.word) h.nd fun x hx => by
    obtain ⟨p, hp, _, e⟩ := (h.mem x).mp hx
    exact List.mem_map.mpr ⟨p, hp, e⟩
  rw [List.length_map, t.parts_len] at q
  exact q
theorem sm_kinds {t : Tr} {ks : List Str} (h : t.ok = true) (hz : t.size ≤ 25) (hk : KdS t ks) : Sm (.tuple (ks.map PyData.str)) 1 225 := by
  refine (Sm.tup (k := 0) (b := 8) (n := 25) (fun d hd => ?_) (by rw [List.length_map]; exact Nat.le_trans hk.len hz)).mono (Nat.le_refl _) (by decide)
  obtain ⟨x, hx, rfl⟩ := List.mem_map.mp hd
  obtain ⟨p, hp, _, e⟩ := (hk.mem x).mp hx
  have g := word_ok p (parts_ok t h p hp).1
  rw [e] at g
  exact sm_str g.2 g.1
theorem KdS.unique {t : Tr} {ks ms : List Str} (h : KdS t ks) (h' : KdS t ms) : ks = ms := sorted_same h.nd h'.nd (fun x => (h.mem x).trans (h'.mem x).symm) h.srt h'.srt
theorem plain_append {x y : Str} (h1 : plain x = true) (h2 : plain y = true) : plain (x ++ y) = true := by
  unfold plain at *
  rw [List.all_eq_true] at *
  intro c hc
  have hc' : c ∈ x.cps.toList ++ y.cps.toList := by
    have e : (x ++ y).cps.toList = x.cps.toList ++ y.cps.toList := by
      show (x.cps ++ y.cps).toList = _
      simp
    rw [← e]
    exact hc
  rcases List.mem_append.mp hc' with z | z
  · exact h1 c z
  · exact h2 c z
theorem plain_join {sep : Str} (hs : plain sep = true) : ∀ {l : List Str}, (∀ x ∈ l, plain x = true) → plain (Str.join sep l) = true
  | [], _ => rfl
  | [x], h => h x List.mem_cons_self
  | x :: y :: r, h => plain_append (plain_append (h x List.mem_cons_self) hs) (plain_join hs (l := y :: r) fun z hz => h z (List.mem_cons_of_mem _ hz))
theorem sm_text {t : Tr} (h : t.ok = true) (hz : t.size ≤ 25) : Sm (.str t.text) 0 300 := by
  unfold Tr.text
  rw [TL.join_eq]
  refine sm_str (plain_join (by decide +kernel) fun x hx => ?_) ?_
  · obtain ⟨p, hp, rfl⟩ := List.mem_map.mp hx
    exact (word_ok p (parts_ok t h p hp).1).2
  · refine Nat.le_trans (StrLaws.join_length_le _ _) ?_
    have key : ∀ ps : List Tr, (∀ p ∈ ps, p.word.length ≤ 8) → ((ps.map Tr.word).map (·.length)).sum ≤ 8 * ps.length := by
      intro ps
      induction ps with
      | nil => intro _; exact Nat.zero_le _
      | cons p ps ih =>
        intro hp
        have h1 := hp p List.mem_cons_self
        have h2 := ih fun q hq => hp q (List.mem_cons_of_mem _ hq)
        simp only [List.map_cons, List.sum_cons, List.length_cons] at h2 ⊢
        omega
    have h2 := key t.parts fun p hp => (word_ok p (parts_ok t h p hp).1).1
    have h3 := t.parts_len
    have h4 : (" " : Str).length = 1 := by decide +kernel
    rw [h4, List.length_map]
    omega
/-- what is heard of a statement -/
def hearD (t : Tr) (ks : List Str) : PyData := .list [.list [.tuple (t.parts.map Tr.toD)], .list [.int (t.size : Int)], .list [.tuple (ks.map PyData.str)], .list [.str t.text]]
theorem sm_hear {t : Tr} {ks : List Str} (h : t.ok = true) (hz : t.size ≤ 25) (hk : KdS t ks) : Sm (hearD t ks) 60 1000000 := by
  refine (Sm.lst (k := 26) (b := 6901) (n := 4) (fun d hd => ?_) (by simp)).mono (by decide) (by decide)
  simp only [List.mem_cons, List.not_mem_nil, or_false] at hd
  have one : ∀ e : PyData, Sm e 25 6900 → Sm (.list [e]) 26 6901 := fun e he => (Sm.lst (k := 25) (b := 6900) (n := 1) (fun d hd => by rw [List.mem_singleton.mp hd]; exact he) (by simp)).mono (by decide) (by decide)
  rcases hd with rfl | rfl | rfl | rfl
  · exact one _ (sm_parts h hz)
  · exact one _ ((sm_int (by omega)).mono (by decide) (by decide))
  · exact one _ ((sm_kinds h hz hk).mono (by decide) (by decide))
  · exact one _ ((sm_text h hz).mono (by decide) (by decide))
end K2
set_option Elab.async false
set_option linter.all false
set_option maxRecDepth 100000
set_option maxHeartbeats 4000000
namespace K2
open PySem L2 Evl XcH LamX LamD
abbrev sLaw : Stmt := top 60
def nLaw : List Str := ["script", "pen", "turn", "statement", "listed", "parts", "is_let", "heard", "kinds", "due", "bad", "wide", "more", "part"]
theorem scLaw : FnScope nLaw ["script"] (defScope sLaw) := ⟨rfl, rfl, rfl, by decide +kernel, rfl, by decide +kernel, by decide +kernel⟩
/-- statements by place in the loop of the law -/
def lawFor : Stmt := (defBody sLaw).getD 1 (.Pass ⟨0, 0, 0, 0⟩)
def forBody : Stmt → List Stmt
  | .For _ _ b _ _ => b
  | _ => []
abbrev lb : List Stmt := forBody lawFor
/-- what the law calls -/
structure LC (P : Program) (w : World) (K : PySem.W.Frag) (mg : Str → Option Value) (base : Heap) (C : Addr) : Prop where
  B : Bl mg
  Hc : HrC K mg C
  pen : Cal P w K mg base CX0 1 "_law_pen" ["script"] (spPen K)
  draw : Cal P w K mg base CX0 1 "_law_draw" ["pen", "many"] spDraw
  pick : Cal P w K mg base CX0 2 "_law_pick" ["pen", "some"] (spPick K)
  long : Cal P w K mg base CX0 3 "_law_long" ["pen", "many"] (spLg K)
  stm : Cal P w K mg base CX0 7 "_law_statement" ["pen", "kinds", "deep"] (spLs K 3)
  lst : Cal P w K mg base CX0 28 "_law_listed" ["pen", "statement"] (spLl K 25)
  prt : Cal P w K mg base CX0 26 "_law_parts" ["statement"] (spLp K 25)
  txt : Cal P w K mg base CX0 27 "_law_text" ["statement"] (spLt K 25)
  bent : Cal P w K mg base CX0 29 "_law_bent" ["pen", "statement"] (spLb K 25)
  is : Cal1 P w K mg base CX0 4 "is_statement" "value" (spIs K)
  po : Cal1 P w K mg base (L2.CX P w) 5 "parts_of" "statement" (spOf K C (RPo K))
  so : Cal1 P w K mg base (L2.CX P w) 5 "size_of" "statement" (spOf K C RSo)
  ko : Cal1 P w K mg base (L2.CX P w) 5 "kinds_of" "statement" (spOf K C (RKo K))
  to : Cal1 P w K mg base (L2.CX P w) 5 "statement_text" "statement" (spOf K C RTo)
  hr : ∃ (g : Addr) (fd : FuncData), Fun K "_law_heard" "_law_heard" sHr g fd ∧ mg "_law_heard" = some (.ref g) ∧ PySem.W.keepIn K (.ref g) = true ∧ L2.Binds K fd ["ask"] []
abbrev LX (P : Program) (w : World) (K : PySem.W.Frag) (mg : Str → Option Value) (base : Heap) (fa : Addr) (cdv : Value) (s : Shared) (H : Hp) : Cx := (cxOf C8.CX0 P w K mg base nLaw "law" (defScope sLaw) fa cdv callerA [] s H C8.E0).nox
theorem guards_lx {P : Program} {w : World} {K : PySem.W.Frag} {mg : Str → Option Value} {base : Heap} {fa : Addr} {cdv : Value} {s : Shared} {H : Hp} : (LX P w K mg base fa cdv s H).A.guards = some [] := rfl
theorem room_c : Room 41 callerA := ⟨rfl, by decide +kernel, by decide +kernel⟩
theorem room_lx {P : Program} {w : World} {K : PySem.W.Frag} {mg : Str → Option Value} {base : Heap} {fa : Addr} {cdv : Value} {s : Shared} {H : Hp} : Room 40 (LX P w K mg base fa cdv s H).A := room_c.deeper _
section
variable {P : Program} {w : World} {K : PySem.W.Frag} {mg : Str → Option Value} {base : Heap} {fa : Addr} {cdv : Value} {s : Shared} {H : Hp} {C : Addr}
/-- heard of a lambda without a parameter -/
theorem pe_hear0 (L : LC P w K mg base C) {c Pt : Addr} (TB : TabB base mg c Pt) (hcode : (LX P w K mg base fa cdv s H).env.code = .ref c) {params : Arguments} {body : Expr} {scope : Scope} {t : XK → TE} {p lpos pos : Pos}
    (hS : LamS (defScope sLaw) scope) (hdef : defaultsOf params (LX P w K mg base fa cdv s H).env = ([], [])) (hbind : ∀ (q : Str) (cl : List (Str × Addr)) (pm cv ctv : Value), bindArgs (PySem.W.kla_fn "<lambda>" q params body scope cl pm cv ctv) ⟨[], []⟩ = pure [])
    (hbody : ∀ (A : Around) (outer : List Env) (s1 : Shared) (H1 : Hp) (E : XK) (f c' : Addr), Room 5 (A.deeper (lamEnv (LX P w K mg base fa cdv s H) scope s1.heap.objs.size f c')) → PE (lamCx (LX P w K mg base fa cdv s H) A outer s1 H1 E scope f c') body (t E)) :
    PE (LX P w K mg base fa cdv s H) (.Call (.Name "_law_heard" p) [.Lambda params body scope lpos] [] pos) (tLam [(Pt, (LX P w K mg base fa cdv s H).env.qual ++ "<lambda>")] (TTh C) t) := by
  obtain ⟨g, fd, F, hm, hk, hb⟩ := L.hr
  obtain ⟨oc, od, kV, doc, pm, an, cdv', ct, osl, rfl, lk, hcd⟩ := F.ex
  exact pe_lamcall (a := "ask") (Ng := nHr) (k := 5) (by rfl) hm hk lk hcd hb scHr rfl (by exact .inl rfl) (heard_gives (room_lx.mono (by decide)) L.B L.Hc) TB hcode (List.mem_singleton.mpr rfl) (fun p hp _ => by rw [List.mem_singleton.mp hp]) (room_lx.mono (by decide)) hS hdef hbind hbody
theorem pe_hear1 (L : LC P w K mg base C) {c Pt : Addr} (TB : TabB base mg c Pt) (hcode : (LX P w K mg base fa cdv s H).env.code = .ref c) {params : Arguments} {body : Expr} {scope : Scope} {t : XK → TE} {a1 : Str} {n : Int} {jn : Nat} {dp p lpos pos : Pos}
    (hS : LamS1 nLaw (defScope sLaw) scope a1) (hdef : defaultsOf params (LX P w K mg base fa cdv s H).env = ([eval (.Constant (.int n) jn dp) (LX P w K mg base fa cdv s H).env], [])) (hkw : params.kwonlyargs = []) (hbind : Binds1 params body scope a1 n)
    (hbody : ∀ (A : Around) (outer : List Env) (s1 : Shared) (H1 : Hp) (E : XK) (f c' : Addr), Room 5 (A.deeper (lamEnv (LX P w K mg base fa cdv s H) scope s1.heap.objs.size f c')) → PE (lamCx (LX P w K mg base fa cdv s H) A outer s1 H1 E scope f c') body (t E)) :
    PE (LX P w K mg base fa cdv s H) (.Call (.Name "_law_heard" p) [.Lambda params body scope lpos] [] pos) (tLam [(Pt, (LX P w K mg base fa cdv s H).env.qual ++ "<lambda>")] (TTh C) t) := by
  obtain ⟨g, fd, F, hm, hk, hb⟩ := L.hr
  obtain ⟨oc, od, kV, doc, pm, an, cdv', ct, osl, rfl, lk, hcd⟩ := F.ex
  exact pe_lamcall1 (a := "ask") (Ng := nHr) (k := 5) (by rfl) hm hk lk hcd hb scHr rfl (by exact .inl rfl) (heard_gives (room_lx.mono (by decide)) L.B L.Hc) TB hcode (List.mem_singleton.mpr rfl) (fun p hp _ => by rw [List.mem_singleton.mp hp]) (room_lx.mono (by decide)) hS hdef hkw hbind hbody
end
end K2
set_option Elab.async false
set_option linter.all false
set_option maxRecDepth 100000
set_option maxHeartbeats 4000000
namespace K2
open PySem L2 Evl XcH LamX LamD
section
variable {K : PySem.W.Frag} {σ : L2.St} {H : Hp} {te : TE} {ta : TA} {d : PyData} {ds : List PyData} {v : V} {t : Tr}
theorem evd_of (h : Ev te σ H v) (hd : Dx K H v d) : EvD K te σ H d := fun H1 e Q q => h H1 e _ fun H2 e2 => q v H2 e2 (Dx.ex (e.trans e2) _ _ hd)
theorem evd_lst (h : EvDs K ta σ H ds) (hz : ds.length ≤ 1000) : EvD K (tLst ta) σ H (.list ds) := fun H1 e Q q =>
  h H1 e _ fun vs H2 e2 hv => ⟨Nat.le_of_lt (sz1000 (by rw [hv.length]; omega)), fun p hp => q _ _ (e2.trans (Ex.new hp)) (.lst (sq_of upd_same) (DxAll.ex (Ex.new hp) _ _ hv))⟩
/-- repr of data made on the way -/
theorem ev_repr (h : EvD K te σ H (.list ds)) (s : Sm (.list ds) 60 1000000) : Ev (tCB (rRepr K) (tCons te tNil)) σ H (.str (PyData.list ds).shown) := fun H1 e Q q =>
  h H1 e _ fun u H2 e2 hu => by
    cases hu with
    | lst hs ha => exact ⟨_, _, rfl, .lst hs ha, s.fine, s.depth, s.bulk, q H2 e2⟩
theorem isT_tame {d : PyData} {t : Tr} (h : IsT d t) : t.ok = true → tame d = true := by
  have two : ∀ {w : Str} {a b : PyData} {ta tb : Tr}, (ta.ok = true → tame a = true) → (tb.ok = true → tame b = true) → (Tr.node w ta tb).ok = true → (decide (w.length ≤ 1000) && (tame a && (tame b && true))) = true := fun {w a b ta tb} ia ib ho => by
    rw [Tr.ok, Bool.and_eq_true, Bool.and_eq_true] at ho
    rw [ia ho.2.1, ib ho.2.2]
    have := join_short ho.1
    rw [decide_eq_true (by omega)] <;> rfl
  induction h with
  | leaf x =>
    intro ho
    have := leaf_short ho
    exact decide_eq_true (by omega)
  | lst _ _ ia ib => exact two ia ib
  | tup _ _ ia ib => exact two ia ib
theorem isT_unique {d : PyData} {t t' : Tr} (h : IsT d t) : IsT d t' → t = t' := by
  induction h generalizing t' with
  | leaf x => intro h'; cases h'; rfl
  | lst _ _ ia ib => intro h'; cases h' with
    | lst ha hb => rw [ia ha, ib hb]
  | tup _ _ ia ib => intro h'; cases h' with
    | tup ha hb => rw [ia ha, ib hb]
/-- is_statement -/
theorem ev_is_st (h : Ev te σ H v) (hd : Dx K H v d) (hI : IsT d t) (ho : t.ok = true) (hz : t.size ≤ 100) : Ev (tCall (spIs K) [] E0 (tCons te tNil)) σ H (.bl (decide (t.size ≤ 24))) := fun H1 e Q q =>
  h H1 e _ fun H2 e2 => ⟨v, d, rfl, Dx.ex (e.trans e2) _ _ hd, isT_tame hI ho, by have := size_nodes hI; omega, fun H3 e3 => by
    rw [tree_chk1 hI ho]
    exact q H3 (e2.trans e3)⟩
end
/-- a statement is drawn -/
theorem go_stm {K : PySem.W.Frag} {σ : L2.St} {H : Hp} {pen : Addr} {T : Nat} {Q : VK} (h1 : σ[1]? = some (some (.ref pen))) (hP : PenS pen T H) (hT : T + 1000 < 1000000)
    (k : ∀ (v : V) (t : Tr) H', ExP pen H H' → PenS pen (T + 300) H' → Dx K H' v t.toD → t.ok = true → t.size ≤ 23 → Q v H') :
    tCall (spPick K) [] E0 (tCons (tVar 1) (tCons (tLst (tCons (tCall (spLg K) [] E0 (tCons (tVar 1) (tCons (tCall spDraw [] E0 (tCons (tVar 1) (tCons (tC (.int 12)) tNil))) tNil)))
      (tCons (tCall (spLs K 3) [] E0 (tCons (tVar 1) (tCons (tLst (tCons (tC (.str "coin")) (tCons (tC (.str "tea")) (tCons (tC (.str "a")) tNil)))) (tCons (tC (.int 3)) tNil))))
        (tCons (tCall (spLg K) [] E0 (tCons (tVar 1) (tCons (tC (.int 11)) tNil))) tNil)))) tNil)) σ H Q := by
  refine ⟨.ref pen, h1, .ref pen, h1, draw_go (m := 12) h1 ev_c (by decide) (by decide) hP (by omega) fun j H1 hj e1 P1 => ?_⟩
  refine ⟨pen, j, T + 1, rfl, by omega, P1, by omega, fun v1 t1 H2 e2 P2 d1 o1 z1 => ?_⟩
  refine ⟨.ref pen, h1, (el_lst (vs := ss ["coin", "tea", "a"]) (ea_cons ev_c (ea_cons ev_c (ea_cons ev_c ea_nil))) (by show 3 ≤ 100000; decide)) H2 (Ex.refl H2) _ fun pk H3 hpk e3 h3 => ?_⟩
  have c3 : cst 3 = 30 := rfl
  refine ⟨pen, pk, 3, T + 101, rfl, by decide, SqL.of h3, (P2.ex e3).le (by omega), by omega, fun v2 t2 H4 e4 P4 d2 o2 z2 => ?_⟩
  refine ⟨.ref pen, h1, pen, 11, T + 131, rfl, by decide, P4.le (by omega), by omega, fun v3 t3 H5 e5 P5 d3 o3 z3 => ?_⟩
  refine ⟨(by show 3 ≤ sizeLine; decide), fun pl hpl => ?_⟩
  have eN : Ex H5 (upd H5 pl (.lst [v1, v2, v3])) := Ex.new hpl
  refine ⟨pen, pl, [v1, v2, v3], T + 231, rfl, .inl (.inl (by rw [noP_at (P5.ne hpl)]; exact upd_same)), by simp, by simp, (P5.ex eN).le (by omega), by omega, fun i x H6 hx e6 P6 => ?_⟩
  have p56 : ExP pen H5 H6 := eN.toP.trans e6
  have p26 : ExP pen H2 H6 := e3.toP.trans (e4.trans (e5.trans p56))
  have p06 : ExP pen H H6 := e1.trans (e2.trans p26)
  match i, hx with
  | 0, hx =>
    cases hx
    exact k v1 t1 H6 p06 (P6.le (by omega)) (Dx.exP P2 (pl_toD t1) d1 p26) o1 (by omega)
  | 1, hx =>
    cases hx
    exact k v2 t2 H6 p06 (P6.le (by omega)) (Dx.exP P4 (pl_toD t2) d2 (e5.trans p56)) o2 (by have : 2 ^ (3 + 1) = 16 := rfl; omega)
  | 2, hx =>
    cases hx
    exact k v3 t3 H6 p06 (P6.le (by omega)) (Dx.exP P5 (pl_toD t3) d3 p56) o3 (by omega)
  | i + 3, hx => simp at hx
end K2
set_option Elab.async false
set_option linter.all false
set_option maxRecDepth 100000
set_option maxHeartbeats 4000000
namespace K2
open PySem L2 Evl XcH LamX LamD
abbrev lbS (i : Nat) : Stmt := lb.getD i (.Pass ⟨0, 0, 0, 0⟩)
theorem bRepr : bootBuiltins "repr" = some (.builtin "repr") := by decide +kernel
section
variable {P : Program} {w : World} {K : PySem.W.Frag} {mg : Str → Option Value} {base : Heap} {fa : Addr} {cdv : Value} {s : Shared} {H : Hp} {C : Addr}
theorem lawA (L : LC P w K mg base C) {Pt : Addr} {qn : Str} {rest : List Stmt} {t2 : TS} (hrest : PSs (LX P w K mg base fa cdv s H) rest t2) :
    ∃ tA, PSs (LX P w K mg base fa cdv s H) (lbS 0 :: lbS 1 :: lbS 2 :: lbS 3 :: rest) tA ∧
      ∀ (D : Ends) (pen : Addr) (T : Nat) (H1 : Hp) (s0 s2 s3 s4 s5 s6 s7 s8 s9 s10 s11 s12 s13 : Option V), LW Pt qn pen T H1 → T + 1000 < 1000000 →
        (∀ (v vl : V) (t : Tr) (d : PyData) (lp : Addr) (ys : List V) (H2 : Hp), LW Pt qn pen (T + 400) H2 → Dx K H2 v t.toD → Dx K H2 vl d → IsT d t → t.ok = true → t.size ≤ 23 → H2 lp = some (.lst ys) → lp ≠ pen → DxAll K H2 ys (t.parts.map Tr.toD) →
          t2 D [s0, some (.ref pen), s2, some v, some vl, some (.ref lp), some (.bl true), s7, s8, s9, s10, s11, s12, s13] H2) →
        tA D [s0, some (.ref pen), s2, s3, s4, s5, s6, s7, s8, s9, s10, s11, s12, s13] H1 := by
  obtain ⟨fd, fdd, Fd, md, kd, bd⟩ := L.draw.ex
  obtain ⟨fp, fdp, Fp, mp, kp, bp⟩ := L.pick.ex
  obtain ⟨fg, fdg, Fg, mgg, kg, bg⟩ := L.long.ex
  obtain ⟨fs, fds, Fs, ms, ks, bs⟩ := L.stm.ex
  obtain ⟨fl, fdl, Fl, ml, kl, bl⟩ := L.lst.ex
  obtain ⟨fr, fdr, Fr, mr, kr, br⟩ := L.prt.ex
  obtain ⟨fi, fdi, Fi, mi, ki, bi, kbi⟩ := L.is.ex
  have hr : Room 40 (LX P w K mg base fa cdv s H).A := room_lx
  have hu : (LX P w K mg base fa cdv s H).A.units + 64 < cLine := by have := hr.un; omega
  refine ⟨_, pss_cons (ps_set (i := 3) scLaw.nd rfl (Or.inl rfl) (pe_call Fp (hr.mono (by decide)) (by rfl) mp kp bp .nil pass0 (pa_cons (pv 1) (pa_cons (pe_lst
        (pa_cons (pe_call Fg (hr.mono (by decide)) (by rfl) mgg kg bg .nil pass0 (pa_cons (pv 1) (pa_cons (pe_call Fd (hr.mono (by decide)) (by rfl) md kd bd .nil pass0 (pa_cons (pv 1) (pa_cons pe_int pa_nil))) pa_nil)))
        (pa_cons (pe_call Fs (hr.mono (by decide)) (by rfl) ms ks bs .nil pass0 (pa_cons (pv 1) (pa_cons (pe_lst (pa_cons pe_str (pa_cons pe_str (pa_cons pe_str pa_nil)))) (pa_cons pe_int pa_nil))))
        (pa_cons (pe_call Fg (hr.mono (by decide)) (by rfl) mgg kg bg .nil pass0 (pa_cons (pv 1) (pa_cons pe_int pa_nil))) pa_nil)))) pa_nil))))
    (pss_cons (ps_asg (pe_tup (pa_cons (pe_call Fl (hr.mono (by decide)) (by rfl) ml kl bl .nil pass0 (pa_cons (pv 1) (pa_cons (pv 3) pa_nil))) (pa_cons (pe_call Fr (hr.mono (by decide)) (by rfl) mr kr br .nil pass0 (pa_cons (pv 3) pa_nil)) pa_nil))) (pg_tup rfl (pgs_cons (pg_name (i := 4) scLaw.nd rfl (Or.inr rfl)) (pgs_cons (pg_name (i := 5) scLaw.nd rfl (Or.inl rfl)) pgs_nil))))
      (pss_cons (ps_set (i := 6) scLaw.nd rfl (Or.inl rfl) (pe_cmpR op_le (pe_callB call_len (by rfl) L.B.len bLen (pa_cons (pv 5) pa_nil)) pe_int (nomark _)))
        (pss_cons (ps_if (pt_cmpR op_ne (pe_callB (call_reprD guards_lx hu) (by rfl) L.B.repr bRepr (pa_cons (pe_lst (pa_cons (pe_call Fi (hr.mono (by decide)) (by rfl) mi ki bi .nil pass0 (pa_cons (pv 3) pa_nil)) (pa_cons (pe_kw0 Fi (hr.mono (by decide)) (by rfl) mi ki kbi pass0 (pk_cons (pe_var (i := 4) rfl (Or.inr (Or.inl rfl)) (by decide) (by decide)) pk_nil)) pa_nil))) pa_nil))
            (pe_callB (call_reprD guards_lx hu) (by rfl) L.B.repr bRepr (pa_cons (pe_lst (pa_cons (pv 6) (pa_cons (pv 6) pa_nil))) pa_nil)) (nomark _)) (pss_one (ps_ret pe_bl)) pss_nil) hrest))), ?_⟩
  intro D pen T H1 s0 s2 s3 s4 s5 s6 s7 s8 s9 s10 s11 s12 s13 hL hT k
  refine q_run (go_stm rfl hL.pen hT fun v t H2 e2 P2 d2 o2 z2 => ?_)
  have L2 := hL.exP e2 P2
  refine q_runG ?_
  refine call_go (ea_cons (ev_var rfl) (ea_cons (ev_var rfl) ea_nil)) fun H3 e3 => ⟨pen, v, t, T + 300, rfl, Dx.ex e3 _ _ d2, by omega, P2.ex e3, by omega, fun vl d H4 e4 P4 dl iT => ?_⟩
  have dv4 := Dx.exP (P2.ex e3) (pl_toD t) (Dx.ex e3 _ _ d2) e4
  have L4 := (L2.ex e3).exP e4 P4
  refine call_go (ea_cons (ev_var rfl) ea_nil) fun H5 e5 => ⟨v, t, rfl, Dx.ex e5 _ _ dv4, by omega, fun lp ys H6 hlp e6 h6 dys => ?_⟩
  have nlp : lp ≠ pen := (P4.ex e5).ne hlp
  refine ⟨(by show 2 ≤ sizeLine; decide), fun tp htp => ⟨tp, _, rfl, SqT.of upd_same, rfl, _, _, rfl, _, _, rfl, rfl, ?_⟩⟩
  have e7 : Ex H4 (upd H6 tp (.tup [vl, .ref lp])) := e5.trans (e6.trans (Ex.new htp))
  have h7 := Ex.new (o := .tup [vl, .ref lp]) htp _ _ h6
  have dy7 := DxAll.ex (Ex.new (o := .tup [vl, .ref lp]) htp) _ _ dys
  generalize upd H6 tp (.tup [vl, .ref lp]) = H7 at e7 h7 dy7
  have hyl : ys.length = t.size := by rw [dys.length, List.length_map, t.parts_len]
  have hz24 : decide (t.size ≤ 24) = true := decide_eq_true (by omega)
  refine q_asg (v := .bl true) (ev_is (ev_op (ev_lenV (xs := ys) (ev_var rfl) (.inl (SqL.of h7))) ev_c rv_I0) ?_) fun H8 e8 => ?_
  · rw [hyl, decide_eq_true (by omega)]
  have e48 := e7.trans e8
  have two : Sm (.list [.bool true, .bool true]) 60 1000000 := ⟨rfl, by simp [PyData.depth, PyData.depthAll], by simp [PyData.bulk, PyData.bulkAll]⟩
  refine q_when (b := false) (et_is (et_test (ev_op (ev_repr (ds := [.bool true, .bool true]) (evd_lst (eds_cons (evd_of (v := .bl true) (ev_is (ev_is_st (t := t) (ev_var rfl) (Dx.ex e48 _ _ dv4) t.isT o2 (by omega)) (by rw [hz24])) (.bl true)) (eds_cons (evd_of (v := .bl true) (ev_is (ev_is_st (t := t) (ev_var rfl) (Dx.ex e48 _ _ dl) iT o2 (by omega)) (by rw [hz24])) (.bl true)) eds_nil)) (by simp)) two)
      (ev_repr (ds := [.bool true, .bool true]) (evd_lst (eds_cons (evd_of (ev_var rfl) (.bl true)) (eds_cons (evd_of (ev_var rfl) (.bl true)) eds_nil)) (by simp)) two) (rv_ne rfl))) (by simp)) (fun z => nomatch z) (fun _ H9 e9 => ?_)
  have e49 := e48.trans e9
  exact k v vl t d lp ys H9 ((L4.ex e49).le (by omega)) (Dx.ex e49 _ _ dv4) (Dx.ex e49 _ _ dl) iT o2 z2 ((e8.trans e9) _ _ h7) nlp (DxAll.ex (e8.trans e9) _ _ dy7)
end
end K2
set_option Elab.async false
set_option linter.all false
set_option maxRecDepth 100000
set_option maxHeartbeats 4000000
namespace K2
open PySem L2 Evl XcH LamX LamD TxS
def tDeadE : TE := fun _ _ _ => False
theorem pe_dead {X : Cx} {e : Expr} : PE X e tDeadE := ⟨fun _ _ _ _ _ _ z => z.elim⟩
theorem bSorted : bootBuiltins "sorted" = some (.builtin "sorted") := by decide +kernel
theorem bSet : bootBuiltins "set" = some (.type "set") := by decide +kernel
section
variable {K : PySem.W.Frag} {σ : L2.St} {H : Hp} {Q : VK} {C Pt pen : Addr} {qn : Str} {T : Nat}
theorem pen_one {p : Addr} {H : Hp} {u : V} (h : PenS pen T H) (hp : H p = some (.lst [u])) : p ≠ pen := by
  obtain ⟨c, cs, n, r, h1, _⟩ := h
  intro z
  rw [z, h1] at hp
  cases hp
/-- what is heard of a look at a statement -/
theorem go_hear {i : Nat} {v : V} {d : PyData} {t : Tr} {R : Tr → V → Hp → Prop} (Gd : PyData → Prop) (hR : ∀ u H', R t u H' → ∃ du, Gd du ∧ pl du = true ∧ Dx K H' u du) (hi : σ[i]? = some (some v)) (hL : LW Pt qn pen T H) (hd : Dx K (cl pen H) v d) (hI : IsT d t) (ho : t.ok = true) (hz : t.size ≤ 24)
    (k : ∀ p du H', LW Pt qn pen T H' → Ex (cl pen H) (cl pen H') → Gd du → Dx K (cl pen H') (.ref p) (.list [du]) → Q (.ref p) H') : tLam [(Pt, qn)] (TTh C) (fun E => tCall (spOf K C R) [] E (tCons (tVar i) tNil)) σ H Q := by
  refine ⟨fun p hp => by rw [List.mem_singleton.mp hp]; exact hL.tab, fun H1 eN T1 => fun H0 e0 Ech R' hE hR' => ?_⟩
  have L1 : LW Pt qn pen T H1 := hL.exN eN (T1 (Pt, qn) (List.mem_singleton.mpr rfl))
  have L0 := L1.ex e0
  have c0 : Ex (cl pen H) (cl pen H0) := (cl_exN eN).trans (Ex.cl e0)
  have hd0 : Dx K H0 v d := Dx.ex (c0.trans (cl_ex pen H0)) _ _ hd
  refine call_go (ea_cons (ev_var hi) ea_nil) fun H2 e2 => ⟨v, d, rfl, Dx.ex e2 _ _ hd0, isT_tame hI ho, by have := size_nodes hI; omega, fun t' i' o' z' u H3 e3 r => ?_, fun hc => ?_⟩
  · have e := isT_unique hI i'
    subst e
    refine hR' u H3 fun p H4 e4 hp => ?_
    obtain ⟨du, g1, g2, g3⟩ := hR u H3 r
    have L4 := (L0.ex (e2.trans e3)).ex e4
    have np := pen_one L4.pen hp
    exact k p du H4 L4 (c0.trans (Ex.cl ((e2.trans e3).trans e4))) g1 (.lst (.inl (.inl (cl_of np hp (fun ps z => nomatch z)))) (.cons (L4.dx g2 (Dx.ex e4 _ _ g3)) .nil))
  · rw [tree_chk1 hI ho, decide_eq_true hz] at hc
    cases hc
/-- what is heard of a look at what is none -/
theorem go_bad {i : Nat} {v : V} {d : PyData} {R : Tr → V → Hp → Prop} (hi : σ[i]? = some (some v)) (hL : LW Pt qn pen T H) (hd : Dx K (cl pen H) v d) (hN : Never d) (ht : tame d = true) (hn : nodes d ≤ 1000)
    (k : ∀ p H', LW Pt qn pen T H' → Ex (cl pen H) (cl pen H') → Dx K (cl pen H') (.ref p) (.tuple [.str "statement", .str "statement"]) → Q (.ref p) H') : tLam [(Pt, qn)] (TTh C) (fun E => tCall (spOf K C R) [] E (tCons (tVar i) tNil)) σ H Q := by
  refine ⟨fun p hp => by rw [List.mem_singleton.mp hp]; exact hL.tab, fun H1 eN T1 => fun H0 e0 Ech R' hE hR' => ?_⟩
  have L1 : LW Pt qn pen T H1 := hL.exN eN (T1 (Pt, qn) (List.mem_singleton.mpr rfl))
  have L0 := L1.ex e0
  have c0 : Ex (cl pen H) (cl pen H0) := (cl_exN eN).trans (Ex.cl e0)
  have hd0 : Dx K H0 v d := Dx.ex (c0.trans (cl_ex pen H0)) _ _ hd
  refine call_go (ea_cons (ev_var hi) ea_nil) fun H2 e2 => ⟨v, d, rfl, Dx.ex e2 _ _ hd0, ht, hn, fun t' i' o' z' u H3 e3 r => ?_, fun hc dx H3 e3 hx => ?_⟩
  · have q := hN.chk
    rw [tree_chk1 i' o', decide_eq_true z'] at q
    cases q
  · refine hE dx H3 hx fun p H4 e4 hp => ?_
    have L4 := (L0.ex (e2.trans e3)).ex e4
    refine k p H4 L4 (c0.trans (Ex.cl ((e2.trans e3).trans e4))) ?_
    obtain ⟨c, r, h1⟩ := L4.pen.at
    exact Dx.cl h1 _ _ rfl (.tup (st_of hp) (.cons (.str _) (.cons (.str _) .nil)))
end
section
variable {K : PySem.W.Frag} {σ : L2.St} {H : Hp} {te ta tb : TE} {d : PyData} {v : V} {t : Tr} {C a : Addr}
theorem ev_reprV (h : Ev te σ H (.ref a)) (hd : Dx K H (.ref a) d) (s : Sm d 60 1000000) : Ev (tCB (rRepr K) (tCons te tNil)) σ H (.str d.shown) := fun H1 e Q q =>
  h H1 e _ fun H2 e2 => ⟨a, d, rfl, Dx.ex (e.trans e2) _ _ hd, s.fine, s.depth, s.bulk, q H2 e2⟩
theorem evd_tup_of {kk : V → Hp → VK → Prop} {x : V} (h : Ev te σ H x) (hk : ∀ H1, Ex H H1 → ∀ Q : VK, (∀ u H2, Ex H1 H2 → Dx K H2 u d → Q u H2) → kk x H1 Q) : EvD K (tThen te kk) σ H d := fun H1 e Q q =>
  h H1 e _ fun H2 e2 => hk H2 (e.trans e2) Q fun u H3 e3 hu => q u H3 (e2.trans e3) hu
theorem evd_po (h : Ev te σ H v) (hd : Dx K H v t.toD) (ho : t.ok = true) (hz : t.size ≤ 24) : EvD K (tCall (spOf K C (RPo K)) [] E0 (tCons te tNil)) σ H (.tuple (t.parts.map Tr.toD)) := fun H1 e Q q =>
  h H1 e _ fun H2 e2 => ⟨v, t.toD, rfl, Dx.ex (e.trans e2) _ _ hd, ok_tame t ho, by have := size_nodes t.isT; omega, fun t' i' o' z' u H3 e3 r => by
    have e := isT_unique t.isT i'
    subst e
    exact q u H3 (e2.trans e3) r, fun hc => by
    rw [tree_chk1 t.isT ho, decide_eq_true hz] at hc
    cases hc⟩
theorem Sm.shaped {k b : Nat} (s : Sm d k b) (hk : k ≤ 64) : SeqAt.shaped d = true := by
  unfold SeqAt.shaped
  rw [fine_lay d s.fine, decide_eq_true (Nat.le_trans s.depth hk)] <;> rfl
theorem et_neD {k b : Nat} (ha : EvD K ta σ H d) (hb : EvD K tb σ H d) (s : Sm d k b) (hk : k ≤ 64) : EvT (tTest (tOp (rNeD K) ta tb)) σ H false := fun H1 e Q q =>
  ha H1 e _ fun x H2 e2 hx => hb H2 (e.trans e2) _ fun y H3 e3 hy => ⟨d, d, Dx.dp _ _ s.fine (Dx.ex e3 _ _ hx), Dx.dp _ _ s.fine hy, s.shaped hk, s.shaped hk, false, by rw [SeqAt.eqv_refl d (fine_lay d s.fine)] <;> rfl, q H3 (e2.trans e3)⟩
theorem go_kinds {P : Program} {w : World} {Q : VK} {xs : List Str} (h : EvL te σ H (xs.map V.str)) (hz : xs.length ≤ 30)
    (k : ∀ u ks H', Ex H H' → Dx K H' (.ref u) (.tuple (ks.map PyData.str)) → ks.Nodup → (∀ x, x ∈ ks ↔ x ∈ xs) → PyProof.Rows.sortedS ks = true → Q (.ref u) H') :
    tThen (tCB (rSortTxt P w) (tCons (tCB (rSetTxt K P w) (tCons te tNil)) tNil)) (kTup K) σ H Q := by
  refine h H (Ex.refl H) _ fun p H7 hp e7 h7 => ?_
  refine ⟨p, xs, rfl, SqL.of h7, by omega, fun ps l hm hl hps => ?_⟩
  refine ⟨ps, l, rfl, upd_same, by omega, fun pq ks nd mem srt hpq => ?_⟩
  refine .inl ⟨pq, _, rfl, SqL.of upd_same, fun u hu => k u ks _ (e7.trans ((Ex.new hps).trans ((Ex.new hpq).trans (Ex.new hu)))) (.tup (st_of upd_same) (dxs_of K _ ks)) nd (fun x => (mem x).trans (hm x)) srt⟩
theorem plAll_strs : ∀ l : List Str, plAll (l.map PyData.str) = true
  | [] => rfl
  | x :: l => by rw [List.map_cons, plAll, plAll_strs l] <;> rfl
end
section
variable {P : Program} {w : World} {K : PySem.W.Frag} {mg : Str → Option Value} {base : Heap} {fa : Addr} {cdv : Value} {s : Shared} {H : Hp} {C : Addr}
abbrev qL (P : Program) (w : World) (K : PySem.W.Frag) (mg : Str → Option Value) (base : Heap) (fa : Addr) (cdv : Value) (s : Shared) (H : Hp) : Str := (LX P w K mg base fa cdv s H).env.qual ++ "<lambda>"
theorem lawB (L : LC P w K mg base C) {c Pt : Addr} (TB : TabB base mg c Pt) (hcode : (LX P w K mg base fa cdv s H).env.code = .ref c) {rest : List Stmt} {t2 : TS} (hrest : PSs (LX P w K mg base fa cdv s H) rest t2) :
    ∃ tB', PSs (LX P w K mg base fa cdv s H) (lbS 4 :: lbS 5 :: lbS 6 :: lbS 7 :: rest) tB' ∧
      ∀ (D : Ends) (pen : Addr) (T : Nat) (H1 : Hp) (s0 s2 s7 s8 s9 s10 s11 s12 s13 : Option V) (v vl : V) (t : Tr) (d : PyData) (lp : Addr) (ys : List V), LW Pt (qL P w K mg base fa cdv s H) pen T H1 → Dx K H1 v t.toD → Dx K H1 vl d → IsT d t → t.ok = true → t.size ≤ 23 → H1 lp = some (.lst ys) → lp ≠ pen → DxAll K H1 ys (t.parts.map Tr.toD) →
        (∀ (H2 : Hp) (o7 o8 o9 : Option V), LW Pt (qL P w K mg base fa cdv s H) pen T H2 → Dx K H2 v t.toD → t2 D [s0, some (.ref pen), s2, some v, some vl, some (.ref lp), some (.bl true), o7, o8, o9, s10, s11, s12, s13] H2) →
        tB' D [s0, some (.ref pen), s2, some v, some vl, some (.ref lp), some (.bl true), s7, s8, s9, s10, s11, s12, s13] H1 := by
  obtain ⟨fi, fdi, Fi, mi, ki, bi, kbi⟩ := L.is.ex
  obtain ⟨fpo, fdpo, Fpo, mpo, kpo, bpo, kbpo⟩ := L.po.ex
  obtain ⟨fso, fdso, Fso, mso, kso, bso, kbso⟩ := L.so.ex
  obtain ⟨fko, fdko, Fko, mko, kko, bko, kbko⟩ := L.ko.ex
  obtain ⟨fto, fdto, Fto, mto, kto, bto, kbto⟩ := L.to.ex
  obtain ⟨fx, fdx, Fx, mx, kx, bx⟩ := L.txt.ex
  have hr : Room 40 (LX P w K mg base fa cdv s H).A := room_lx
  have hu : (LX P w K mg base fa cdv s H).A.units + 64 < cLine := by have := hr.un; omega
  refine ⟨_, pss_cons (ps_set (i := 7) scLaw.nd rfl (Or.inl rfl) (pe_lst
        (pa_cons (pe_hear0 (t := fun E => tCall (spOf K C (RPo K)) [] E (tCons (tVar 4) tNil)) L TB hcode (lamS_by (show lamSB (defScope sLaw) _ = true by decide +kernel)) rfl (fun _ _ _ _ _ => rfl) (fun A outer s1 H1 E f c' hr2 => pe_call Fpo hr2 (by rfl) mpo kpo bpo .nil (passes_call (E := E) (takes_of rfl rfl rfl rfl) fun _ _ _ _ h => h) (pa_cons (pe_var (i := 4) rfl (Or.inr (Or.inr rfl)) (by decide) (by decide)) pa_nil)))
        (pa_cons (pe_hear1 (t := fun E => tCall (spOf K C RSo) [] E (tCons (tVar 4) tNil)) L TB hcode (lamS1_by (show lamS1B nLaw (defScope sLaw) _ _ = true by decide +kernel)) rfl rfl (fun _ _ _ _ _ _ _ => ⟨_, rfl, fun _ => rfl⟩) (fun A outer s1 H1 E f c' hr2 => pe_kw0 Fso hr2 (by rfl) mso kso kbso (passes_call (E := E) (takes_of rfl rfl rfl rfl) fun _ _ _ _ h => h) (pk_cons (pe_var (i := 4) rfl (Or.inr (Or.inr rfl)) (by decide) (by decide)) pk_nil)))
        (pa_cons (pe_hear1 (t := fun E => tCall (spOf K C (RKo K)) [] E (tCons (tVar 4) tNil)) L TB hcode (lamS1_by (show lamS1B nLaw (defScope sLaw) _ _ = true by decide +kernel)) rfl rfl (fun _ _ _ _ _ _ _ => ⟨_, rfl, fun _ => rfl⟩) (fun A outer s1 H1 E f c' hr2 => pe_kw0 Fko hr2 (by rfl) mko kko kbko (passes_call (E := E) (takes_of rfl rfl rfl rfl) fun _ _ _ _ h => h) (pk_cons (pe_var (i := 4) rfl (Or.inr (Or.inr rfl)) (by decide) (by decide)) pk_nil)))
        (pa_cons (pe_hear1 (t := fun E => tCall (spOf K C RTo) [] E (tCons (tVar 4) tNil)) L TB hcode (lamS1_by (show lamS1B nLaw (defScope sLaw) _ _ = true by decide +kernel)) rfl rfl (fun _ _ _ _ _ _ _ => ⟨_, rfl, fun _ => rfl⟩) (fun A outer s1 H1 E f c' hr2 => pe_kw0 Fto hr2 (by rfl) mto kto kbto (passes_call (E := E) (takes_of rfl rfl rfl rfl) fun _ _ _ _ h => h) (pk_cons (pe_var (i := 4) rfl (Or.inr (Or.inr rfl)) (by decide) (by decide)) pk_nil))) pa_nil))))))
    (pss_cons (ps_set (i := 8) scLaw.nd rfl (Or.inl rfl) (pe_tupleOf (by rfl) L.B.tuple (pe_callB (cr_sortTxt rfl) (by rfl) L.B.sorted bSorted (pa_cons (pe_callTy (cr_setTxt rfl) (by rfl) L.B.set bSet (pa_cons
          (pe_lc (own := [("part", 13)]) (g := gName 13) (tt := tAnd (tB (tCB (rIsi K) (tCons (tVar 13) (tCons (tC (.ty "str")) tNil)))) (tTest (tOp (rIn K true) (tVar 13) (tTup (tCons (tC (.str "nothing")) (tCons (tC (.str "any")) (tCons (tC (.str "no")) tNil))))))) (te := tVar 13) rfl scLaw.nd (pi_list (pv 5)) (blkOk_by (N := nLaw) (sc := defScope sLaw) (by decide +kernel))
            (fun _ _ _ _ _ => pg_name (i := 13) scLaw.nd rfl (Or.inl rfl)) (fun _ _ _ _ _ => pts_one (pw_and (pt_val (pe_callB call_isi (by rfl) L.B.isi bIsi (pa_cons (pv 13) (pa_cons (pe_bltn (v := .ty "str") (by rfl) L.B.str bStr rfl) pa_nil)))) (pw_and1 (pt_cmpR op_notIn_seq (pv 13) (pe_tup (pa_cons pe_str (pa_cons pe_str (pa_cons pe_str pa_nil)))) (by with_unfolding_all rfl)))).pt) (fun _ _ _ _ _ => pv 13)) pa_nil)) pa_nil))))
      (pss_cons (ps_set (i := 9) scLaw.nd rfl (Or.inl rfl) (pe_ifExp (pt_val (pv 6)) (pe_lst (pa_cons (pe_lst (pa_cons (pe_tupleOf (by rfl) L.B.tuple (pv 5)) pa_nil)) (pa_cons (pe_lst (pa_cons (pe_callB call_len (by rfl) L.B.len bLen (pa_cons (pv 5) pa_nil)) pa_nil)) (pa_cons (pe_lst (pa_cons (pv 8) pa_nil))
            (pa_cons (pe_lst (pa_cons (pe_call Fx (hr.mono (by decide)) (by rfl) mx kx bx .nil pass0 (pa_cons (pv 3) pa_nil)) pa_nil)) pa_nil))))) pe_dead))
        (pss_cons (ps_if (pw_or (pt_cmpR op_ne (pe_callB (call_reprD guards_lx hu) (by rfl) L.B.repr bRepr (pa_cons (pv 7) pa_nil)) (pe_callB (call_reprD guards_lx hu) (by rfl) L.B.repr bRepr (pa_cons (pv 9) pa_nil)) (nomark _))
            (pw_or1 (pw_and (pt_val (pv 6)) (pw_and1 (pt_cmpR (op_neD hu) (pe_kw0 Fpo (hr.mono (by decide)) (by rfl) mpo kpo kbpo passL (pk_cons (pv 3) pk_nil)) (pe_tupleOf (by rfl) L.B.tuple (pv 5)) (nomark _)))).pt)).pt (pss_one (ps_ret pe_bl)) pss_nil) hrest))), ?_⟩
  intro D pen T H1 s0 s2 s7 s8 s9 s10 s11 s12 s13 v vl t d lp ys hL hv hvl hI ho hz hlp nlp hys k
  obtain ⟨pc, pr, hpen⟩ := hL.pen.at
  have hvc := hL.dx (pl_toD t) hv
  have hvlc := hL.dx (pl_isT hI) hvl
  have hlpc : cl pen H1 lp = some (.lst ys) := cl_of nlp hlp fun ps z => nomatch z
  have hysc := DxAll.cl hpen _ _ (plAll_toD t.parts) hys
  have hyl : ys.length = t.size := by rw [hys.length, List.length_map, t.parts_len]
  refine q_run ?_
  refine go_hear (i := 4) (fun du => du = .tuple (t.parts.map Tr.toD)) (fun u H' r => ⟨_, rfl, plAll_toD t.parts, r⟩) rfl hL hvlc hI ho (by omega) fun p1 du1 H2 L2 c2 g1 x1 => ?_
  refine go_hear (i := 4) (fun du => du = .int (t.size : Int)) (fun u H' r => ⟨_, rfl, rfl, by rw [show u = V.int (t.size : Nat) from r]; exact .int _⟩) rfl L2 (Dx.ex c2 _ _ hvlc) hI ho (by omega) fun p2 du2 H3 L3 c3 g2 x2 => ?_
  refine go_hear (i := 4) (fun du => ∃ ks, KdS t ks ∧ du = .tuple (ks.map PyData.str)) (fun u H' r => by
    obtain ⟨ks, r1, r2⟩ := r
    exact ⟨_, ⟨ks, r2, rfl⟩, plAll_strs ks, r1⟩) rfl L3 (Dx.ex (c2.trans c3) _ _ hvlc) hI ho (by omega) fun p3 du3 H4 L4 c4 g3 x3 => ?_
  refine go_hear (i := 4) (fun du => du = .str t.text) (fun u H' r => ⟨_, rfl, rfl, by rw [show u = V.str t.text from r]; exact .str _⟩) rfl L4 (Dx.ex ((c2.trans c3).trans c4) _ _ hvlc) hI ho (by omega) fun p4 du4 H5 L5 c5 g4 x4 => ?_
  obtain ⟨ks, hks, rfl⟩ := g3
  subst g1
  subst g2
  subst g4
  refine ⟨(by show 4 ≤ sizeLine; decide), fun hp hhp => ?_⟩
  have eN : Ex H5 (upd H5 hp (.lst [.ref p1, .ref p2, .ref p3, .ref p4])) := Ex.new hhp
  have g5 : upd H5 hp (.lst [.ref p1, .ref p2, .ref p3, .ref p4]) hp = some (.lst [.ref p1, .ref p2, .ref p3, .ref p4]) := upd_same
  have L6 := L5.ex eN
  generalize upd H5 hp (.lst [.ref p1, .ref p2, .ref p3, .ref p4]) = H6 at eN g5 L6
  have e56 : Ex (cl pen H5) H6 := (cl_ex pen H5).trans eN
  have hd6 : Dx K H6 (.ref hp) (hearD t ks) := .lst (sq_of g5) (.cons (Dx.ex ((c3.trans (c4.trans c5)).trans e56) _ _ x1) (.cons (Dx.ex ((c4.trans c5).trans e56) _ _ x2) (.cons (Dx.ex (c5.trans e56) _ _ x3) (.cons (Dx.ex e56 _ _ x4) .nil))))
  have e16 : Ex (cl pen H1) H6 := (c2.trans (c3.trans (c4.trans c5))).trans e56
  have hv6 := Dx.ex e16 _ _ hvc
  have h6 := e16 _ _ hlpc
  have hy6 := DxAll.ex e16 _ _ hysc
  have el := el_lcTr (K := K) (σ := [s0, some (.ref pen), s2, some v, some vl, some (.ref lp), some (.bl true), some (.ref hp), s8, s9, s10, s11, s12, s13]) (H := H6) (te := tVar 13) (tl := tVar 5) (t := tAnd (tB (tCB (rIsi K) (tCons (tVar 13) (tCons (tC (.ty "str")) tNil)))) (tTest (tOp (rIn K true) (tVar 13) (tTup (tCons (tC (.str "nothing")) (tCons (tC (.str "any")) (tCons (tC (.str "no")) tNil))))))) (vs := [13]) (j := 13) (ts := t.parts) Tr.isKind (fun t1 => .str t1.word)
    (ev_var rfl) (SqL.of h6) hy6 (by omega) (fun _ => rfl) (fun t1 x H' e hm hx => by
      cases t1 with
      | leaf y =>
        cases hx
        exact et_is (et_and (a := true) (b := !inV (.str y) (ss bare)) (et_B (ev_isTxt (ev_var rfl) (.str y))) (fun _ => et_test (ev_niU (ev_var rfl) (eu_tup (vs := ss bare) (ea_cons ev_c (ea_cons ev_c (ea_cons ev_c ea_nil))) (by show 3 ≤ 100000; decide)) rfl (flat_ss _)))) rfl
      | node w1 a b => exact et_is (et_and (a := false) (b := false) (et_B (ev_isTxt (ev_var rfl) hx)) (fun z => nomatch z)) rfl) (fun t1 x H' e hm hx hk => by
      cases t1 with
      | leaf y =>
        cases hx
        exact ev_var rfl
      | node w1 a b => cases hk)
  have hfl : (t.parts.filter Tr.isKind).length ≤ t.size := by
    have := List.length_filter_le Tr.isKind t.parts
    rw [t.parts_len] at this
    exact this
  rw [show (t.parts.filter Tr.isKind).map (fun t1 => V.str t1.word) = ((t.parts.filter Tr.isKind).map Tr.word).map V.str from by rw [List.map_map] <;> rfl] at el
  refine q_run (go_kinds el (by rw [List.length_map]; omega) fun u ks2 H8 e8 hd8 nd mem srt => ?_)
  have hk2 : KdS t ks2 := ⟨nd, fun x => by
    rw [mem x]
    constructor
    · intro hx
      obtain ⟨p, hp, rfl⟩ := List.mem_map.mp hx
      obtain ⟨hp1, hp2⟩ := List.mem_filter.mp hp
      exact ⟨p, hp1, hp2, rfl⟩
    · rintro ⟨p, hp1, hp2, rfl⟩
      exact List.mem_map_of_mem (List.mem_filter.mpr ⟨hp1, hp2⟩), srt⟩
  have ek := hks.unique hk2
  subst ek
  have hv8 := Dx.ex e8 _ _ hv6
  have h8 := e8 _ _ h6
  have hy8 := DxAll.ex e8 _ _ hy6
  have hh8 := Dx.ex e8 _ _ hd6
  have tupD : ∀ {σ : List (Option V)} {H' : Hp}, σ[5]? = some (some (.ref lp)) → Ex H8 H' → EvD K (tThen (tVar 5) (kTup K)) σ H' (.tuple (t.parts.map Tr.toD)) := fun {σ H'} h5 e => evd_tup_of (x := .ref lp) (ev_var h5) fun H2 e2 Q q => .inl ⟨lp, ys, rfl, SqL.of ((e.trans e2) _ _ h8), fun u hu => q _ _ (Ex.new hu) (.tup (st_of upd_same) (DxAll.ex ((e.trans e2).trans (Ex.new hu)) _ _ hy8))⟩
  refine q_run (if_go (b := true) (et_B (ev_var rfl)) (fun _ H9 e9 => ?_) (fun z => nomatch z))
  have due : EvD K (tLst (tCons (tLst (tCons (tThen (tVar 5) (kTup K)) tNil)) (tCons (tLst (tCons (tCB (rLenV K) (tCons (tVar 5) tNil)) tNil)) (tCons (tLst (tCons (tVar 8) tNil)) (tCons (tLst (tCons (tCall (spLt K 25) [] E0 (tCons (tVar 3) tNil)) tNil)) tNil)))))
      [s0, some (.ref pen), s2, some v, some vl, some (.ref lp), some (.bl true), some (.ref hp), some (.ref u), s9, s10, s11, s12, s13] H9 (hearD t ks) :=
    evd_lst (eds_cons (evd_lst (eds_cons (tupD rfl e9) eds_nil) (by simp)) (eds_cons (evd_lst (eds_cons (evd_of (v := .int (t.size : Int)) (ev_is (ev_lenV (xs := ys) (ev_var rfl) (.inl (SqL.of (e9 _ _ h8)))) (by rw [hyl])) (.int _)) eds_nil) (by simp))
      (eds_cons (evd_lst (eds_cons (evd_of (ev_var rfl) (Dx.ex e9 _ _ hd8)) eds_nil) (by simp))
        (eds_cons (evd_lst (eds_cons (evd_of (v := .str t.text) (fun H' e Q q => ⟨v, rfl, v, t, rfl, Dx.ex (e9.trans e) _ _ hv8, by omega, tame_short t.isT (ok_tame t ho), fun H2 e2 => q H2 e2⟩) (.str _)) eds_nil) (by simp)) eds_nil)))) (by simp)
  refine due H9 (Ex.refl H9) _ fun ud H10 e10 hdue => ?_
  obtain ⟨du, rfl⟩ : ∃ du, ud = .ref du := by
    cases hdue with
    | lst _ _ => exact ⟨_, rfl⟩
  have sh := sm_hear ho (by omega) hks
  refine q_when (b := false) (et_is (et_or (a := false) (b := false) (et_is (et_test (ev_op (ev_reprV (d := hearD t ks) (ev_var rfl) (Dx.ex (e9.trans e10) _ _ hh8) sh) (ev_reprV (d := hearD t ks) (ev_var rfl) hdue sh) (rv_ne rfl))) (by simp)) (fun _ => et_is (et_and (a := true) (b := false) (et_B (ev_var rfl)) (fun _ => et_neD (evd_po (ev_var rfl) (Dx.ex (e9.trans e10) _ _ hv8) ho (by omega)) (tupD rfl (e9.trans e10)) (sm_parts ho (by omega)) (by decide))) rfl)) rfl) (fun z => nomatch z) (fun _ H11 e11 => ?_)
  exact k H11 _ _ _ (L6.ex (e8.trans (e9.trans (e10.trans e11)))) (Dx.ex (e9.trans (e10.trans e11)) _ _ hv8)
end
end K2
set_option Elab.async false
set_option linter.all false
set_option maxRecDepth 100000
set_option maxHeartbeats 4000000
namespace K2
open PySem L2 Evl XcH LamX LamD TxS
def prD : PyData := .tuple [.str "statement", .str "statement"]
def pr4 : PyData := .list [prD, prD, prD, prD]
theorem sm_pr4 : Sm pr4 60 1000000 := by
  have h0 : plain "statement" = true := by decide +kernel
  have h1 : Sm prD 1 100 := (Sm.tup (k := 0) (b := 9) (n := 2) (fun d hd => by
    simp only [List.mem_cons, List.not_mem_nil, or_false, or_self] at hd
    rw [hd]
    exact sm_str h0 (by decide +kernel)) (by simp)).mono (by decide) (by decide)
  exact (Sm.lst (k := 1) (b := 100) (n := 4) (fun d hd => by
    simp only [List.mem_cons, List.not_mem_nil, or_false, or_self] at hd
    rw [hd]
    exact h1) (by simp)).mono (by decide) (by decide)
section
variable {K : PySem.W.Frag} {σ : List (Option V)} {H : Hp}
theorem evd_pr4 : EvD K (tOp rRep (tLst (tCons (tTup (tCons (tC (.str "statement")) (tCons (tC (.str "statement")) tNil))) tNil)) (tC (.int 4))) σ H pr4 := fun H1 e Q q =>
  ⟨(by show 2 ≤ sizeLine; decide), fun p hp => ⟨(by show 1 ≤ sizeLine; decide), fun l hl => ⟨l, 4, [.ref p], rfl, rfl, upd_same, by decide, by decide, (by show 4 ≤ sizeLine; decide), fun r hr => by
    have g : Dx K (upd (upd (upd H1 p (.tup [.str "statement", .str "statement"])) l (.lst [.ref p])) r (.lst (List.replicate (4 : Int).toNat [V.ref p]).flatten)) (.ref p) prD := .tup (st_of (Ex.new hr _ _ (Ex.new hl _ _ upd_same))) (.cons (.str _) (.cons (.str _) .nil))
    exact q _ _ ((Ex.new hp).trans ((Ex.new hl).trans (Ex.new hr))) (.lst (sq_of upd_same) (.cons g (.cons g (.cons g (.cons g .nil)))))⟩⟩⟩
end
section
variable {P : Program} {w : World} {K : PySem.W.Frag} {mg : Str → Option Value} {base : Heap} {fa : Addr} {cdv : Value} {s : Shared} {H : Hp} {C : Addr}
theorem lawC (L : LC P w K mg base C) {c Pt : Addr} (TB : TabB base mg c Pt) (hcode : (LX P w K mg base fa cdv s H).env.code = .ref c) :
    ∃ tC', PSs (LX P w K mg base fa cdv s H) [lbS 8, lbS 9, lbS 10] tC' ∧
      ∀ (D : Ends) (pen : Addr) (T : Nat) (H1 : Hp) (s0 s2 s4 s5 s6 s7 s8 s9 s10 s11 s12 s13 : Option V) (v : V) (t : Tr), LW Pt (qL P w K mg base fa cdv s H) pen T H1 → T + 1000 < 1000000 → Dx K H1 v t.toD → t.ok = true → t.size ≤ 23 →
        (∀ (H2 : Hp) (o7 o10 : Option V), LW Pt (qL P w K mg base fa cdv s H) pen (T + 100) H2 → D.nx [s0, some (.ref pen), s2, some v, s4, s5, s6, o7, s8, s9, o10, s11, s12, s13] H2) →
        tC' D [s0, some (.ref pen), s2, some v, s4, s5, s6, s7, s8, s9, s10, s11, s12, s13] H1 := by
  obtain ⟨fi, fdi, Fi, mi, ki, bi, kbi⟩ := L.is.ex
  obtain ⟨fpo, fdpo, Fpo, mpo, kpo, bpo, kbpo⟩ := L.po.ex
  obtain ⟨fso, fdso, Fso, mso, kso, bso, kbso⟩ := L.so.ex
  obtain ⟨fko, fdko, Fko, mko, kko, bko, kbko⟩ := L.ko.ex
  obtain ⟨fto, fdto, Fto, mto, kto, bto, kbto⟩ := L.to.ex
  obtain ⟨fb, fdb, Fb, mb, kb, bb⟩ := L.bent.ex
  have hr : Room 40 (LX P w K mg base fa cdv s H).A := room_lx
  have hu : (LX P w K mg base fa cdv s H).A.units + 64 < cLine := by have := hr.un; omega
  refine ⟨_, pss_cons (ps_set (i := 10) scLaw.nd rfl (Or.inr rfl) (pe_call Fb (hr.mono (by decide)) (by rfl) mb kb bb .nil pass0 (pa_cons (pv 1) (pa_cons (pv 3) pa_nil))))
    (pss_cons (ps_set (i := 7) scLaw.nd rfl (Or.inl rfl) (pe_lst
        (pa_cons (pe_hear0 (t := fun E => tCall (spOf K C (RPo K)) [] E (tCons (tVar 10) tNil)) L TB hcode (lamS_by (show lamSB (defScope sLaw) _ = true by decide +kernel)) rfl (fun _ _ _ _ _ => rfl) (fun A outer s1 H1 E f c' hr2 => pe_call Fpo hr2 (by rfl) mpo kpo bpo .nil (passes_call (E := E) (takes_of rfl rfl rfl rfl) fun _ _ _ _ h => h) (pa_cons (pe_var (i := 10) rfl (Or.inr (Or.inr rfl)) (by decide) (by decide)) pa_nil)))
        (pa_cons (pe_hear1 (t := fun E => tCall (spOf K C RSo) [] E (tCons (tVar 10) tNil)) L TB hcode (lamS1_by (show lamS1B nLaw (defScope sLaw) _ _ = true by decide +kernel)) rfl rfl (fun _ _ _ _ _ _ _ => ⟨_, rfl, fun _ => rfl⟩) (fun A outer s1 H1 E f c' hr2 => pe_call Fso hr2 (by rfl) mso kso bso .nil (passes_call (E := E) (takes_of rfl rfl rfl rfl) fun _ _ _ _ h => h) (pa_cons (pe_var (i := 10) rfl (Or.inr (Or.inr rfl)) (by decide) (by decide)) pa_nil)))
        (pa_cons (pe_hear1 (t := fun E => tCall (spOf K C (RKo K)) [] E (tCons (tVar 10) tNil)) L TB hcode (lamS1_by (show lamS1B nLaw (defScope sLaw) _ _ = true by decide +kernel)) rfl rfl (fun _ _ _ _ _ _ _ => ⟨_, rfl, fun _ => rfl⟩) (fun A outer s1 H1 E f c' hr2 => pe_call Fko hr2 (by rfl) mko kko bko .nil (passes_call (E := E) (takes_of rfl rfl rfl rfl) fun _ _ _ _ h => h) (pa_cons (pe_var (i := 10) rfl (Or.inr (Or.inr rfl)) (by decide) (by decide)) pa_nil)))
        (pa_cons (pe_hear1 (t := fun E => tCall (spOf K C RTo) [] E (tCons (tVar 10) tNil)) L TB hcode (lamS1_by (show lamS1B nLaw (defScope sLaw) _ _ = true by decide +kernel)) rfl rfl (fun _ _ _ _ _ _ _ => ⟨_, rfl, fun _ => rfl⟩) (fun A outer s1 H1 E f c' hr2 => pe_call Fto hr2 (by rfl) mto kto bto .nil (passes_call (E := E) (takes_of rfl rfl rfl rfl) fun _ _ _ _ h => h) (pa_cons (pe_var (i := 10) rfl (Or.inr (Or.inr rfl)) (by decide) (by decide)) pa_nil))) pa_nil))))))
      (pss_one (ps_if (pw_or (pt_cmpR op_notBl (pe_call Fi (hr.mono (by decide)) (by rfl) mi ki bi .nil pass0 (pa_cons (pe_var (i := 10) rfl (Or.inr (Or.inl rfl)) (by decide) (by decide)) pa_nil)) pe_bl (nomark _))
          (pw_or1 (pt_cmpR (op_neD hu) (pv 7) (pe_op op_rep (pe_lst (pa_cons (pe_tup (pa_cons pe_str (pa_cons pe_str pa_nil))) pa_nil)) pe_int) (nomark _)))).pt (pss_one (ps_ret pe_bl)) pss_nil))), ?_⟩
  intro D pen T H1 s0 s2 s4 s5 s6 s7 s8 s9 s10 s11 s12 s13 v t hL hT hv ho hz k
  refine q_run (call_go (ea_cons (ev_var rfl) (ea_cons (ev_var rfl) ea_nil)) fun H2 e2 => ⟨pen, v, t, T, rfl, Dx.ex e2 _ _ hv, ho, by omega, hL.pen.ex e2, by omega, fun vb d H3 e3 P3 hd hN hnl htm hnd => ?_⟩)
  have L3 := (hL.ex e2).exP e3 P3
  have hdc := L3.dx (noL_pl d hnl) hd
  refine q_run ?_
  refine go_bad (i := 10) rfl L3 hdc hN htm (by omega) fun p1 H4 L4 c4 x1 => ?_
  refine go_bad (i := 10) rfl L4 (Dx.ex c4 _ _ hdc) hN htm (by omega) fun p2 H5 L5 c5 x2 => ?_
  refine go_bad (i := 10) rfl L5 (Dx.ex (c4.trans c5) _ _ hdc) hN htm (by omega) fun p3 H6 L6 c6 x3 => ?_
  refine go_bad (i := 10) rfl L6 (Dx.ex ((c4.trans c5).trans c6) _ _ hdc) hN htm (by omega) fun p4 H7 L7 c7 x4 => ?_
  refine ⟨(by show 4 ≤ sizeLine; decide), fun hp hhp => ?_⟩
  have eN : Ex H7 (upd H7 hp (.lst [.ref p1, .ref p2, .ref p3, .ref p4])) := Ex.new hhp
  have g5 : upd H7 hp (.lst [.ref p1, .ref p2, .ref p3, .ref p4]) hp = some (.lst [.ref p1, .ref p2, .ref p3, .ref p4]) := upd_same
  have L8 := L7.ex eN
  generalize upd H7 hp (.lst [.ref p1, .ref p2, .ref p3, .ref p4]) = H8 at eN g5 L8
  have e78 : Ex (cl pen H7) H8 := (cl_ex pen H7).trans eN
  have hd8 : Dx K H8 (.ref hp) pr4 := .lst (sq_of g5) (.cons (Dx.ex ((c5.trans (c6.trans c7)).trans e78) _ _ x1) (.cons (Dx.ex ((c6.trans c7).trans e78) _ _ x2) (.cons (Dx.ex (c7.trans e78) _ _ x3) (.cons (Dx.ex e78 _ _ x4) .nil))))
  have hb8 := Dx.ex ((c4.trans (c5.trans (c6.trans c7))).trans e78) _ _ hdc
  refine s_when (b := false) (et_is (et_or (a := false) (b := false) (et_test (ev_op (x := .bl false) (y := .bl false) (fun H' e Q q => ⟨vb, rfl, vb, d, rfl, Dx.ex e _ _ hb8, htm, by omega, fun H9 e9 => by
      rw [hN.chk]
      exact q H9 e9⟩) ev_c (fun H' e Q q => ⟨false, false, rfl, rfl, q _ (Ex.refl _)⟩))) (fun _ => et_neD (evd_of (ev_var rfl) hd8) evd_pr4 sm_pr4 (by decide))) rfl) (fun z => nomatch z) (fun _ H9 e9 => ?_)
  exact k H9 _ _ ((L8.ex e9).le (by omega))
end
end K2
set_option Elab.async false
set_option linter.all false
set_option maxRecDepth 100000
set_option maxHeartbeats 4000000
namespace K2
open PySem L2 Evl XcH LamX LamD TxS
def fin1 : Tr := .node "gives" (.leaf "a") (.node "or" (.leaf "no") (.leaf "b"))
section
variable {K : PySem.W.Frag} {σ : List (Option V)} {H : Hp} {ta tb : TE} {d : PyData} {C : Addr}
theorem ev_eqD {k b : Nat} (ha : EvD K ta σ H d) (hb : EvD K tb σ H d) (s : Sm d k b) (hk : k ≤ 64) : Ev (tOp (rEqD K) ta tb) σ H (.bl true) := fun H1 e Q q =>
  ha H1 e _ fun x H2 e2 hx => hb H2 (e.trans e2) _ fun y H3 e3 hy => ⟨d, d, Dx.dp _ _ s.fine (Dx.ex e3 _ _ hx), Dx.dp _ _ s.fine hy, s.shaped hk, s.shaped hk, by rw [SeqAt.eqv_refl d (fine_lay d s.fine)]; exact q H3 (e2.trans e3)⟩
theorem evd_any : EvD K (tCall (spOf K C (RKo K)) [] E0 (tCons (tC (.str "any")) tNil)) σ H (.tuple []) := fun H1 e Q q =>
  ⟨.str "any", .str "any", rfl, .str _, by decide +kernel, by decide +kernel, fun t' i' o' z' u H3 e3 r => by
    have e := isT_unique (.leaf "any") i'
    subst e
    obtain ⟨ks, r1, r2⟩ := r
    have hk : ks = [] := by
      cases ks with
      | nil => rfl
      | cons x ks =>
        obtain ⟨p, hp, hp2, _⟩ := (r2.mem x).mp List.mem_cons_self
        rw [Tr.parts, List.mem_singleton] at hp
        rw [hp] at hp2
        exact absurd hp2 (by decide +kernel)
    subst hk
    exact q u H3 e3 r1, fun hc => absurd hc (by decide +kernel)⟩
theorem ev_fin (h : EvD K ta σ H fin1.toD) : Ev (tCall (spOf K C RTo) [] E0 (tCons ta tNil)) σ H (.str fin1.text) := fun H1 e Q q =>
  h H1 e _ fun u H2 e2 hu => ⟨u, fin1.toD, rfl, hu, by decide +kernel, by decide +kernel, fun t' i' o' z' v H3 e3 r => by
    have e := isT_unique fin1.isT i'
    subst e
    rw [show v = V.str fin1.text from r]
    exact q H3 (e2.trans e3), fun hc => absurd hc (by decide +kernel)⟩
end
section
variable {P : Program} {w : World} {K : PySem.W.Frag} {mg : Str → Option Value} {base : Heap} {fa : Addr} {cdv : Value} {s : Shared} {H : Hp} {C : Addr}
def HeadLaw (Pt : Addr) (q : Str) (pen : Addr) (i : Nat) (σ : List (Option V)) (H : Hp) : Prop := ∃ s0 s2 s3 s4 s5 s6 s7 s8 s9 s10 s11 s12 s13, σ = [s0, some (.ref pen), s2, s3, s4, s5, s6, s7, s8, s9, s10, s11, s12, s13] ∧ LW Pt q pen (1000 * i) H
theorem law_walk (L : LC P w K mg base C) {c Pt : Addr} (TB : TabB base mg c Pt) (hcode : (LX P w K mg base fa cdv s H).env.code = .ref c) :
    ∃ t, PSs (LX P w K mg base fa cdv s H) (defBody sLaw) t ∧ ∀ (Q : VK) (a : Addr) (ns : List Int) (nx : L2.St → Hp → Prop) (bk ct : L2.St → Hp → Prop), SqL K H a (ns.map V.int) → ns.length ≤ 63 → H Pt = some (.tbl #[]) → (∀ H', Q (.bl true) H') → t { nx := nx, rt := Q, bk := bk, ct := ct } (start nLaw [.ref a]) H := by
  obtain ⟨tC', hC, kC⟩ := lawC (s := s) (H := H) (fa := fa) (cdv := cdv) L TB hcode
  obtain ⟨tB', hB, kB⟩ := lawB L TB hcode hC
  obtain ⟨tA, hA, kA⟩ := lawA (Pt := Pt) (qn := qL P w K mg base fa cdv s H) L hB
  obtain ⟨fp, fdp, Fp, mp, kp, bp⟩ := L.pen.ex
  obtain ⟨fg, fdg, Fg, mgg, kg, bg⟩ := L.long.ex
  obtain ⟨fi, fdi, Fi, mi, ki, bi, kbi⟩ := L.is.ex
  obtain ⟨fko, fdko, Fko, mko, kko, bko, kbko⟩ := L.ko.ex
  obtain ⟨fto, fdto, Fto, mto, kto, bto, kbto⟩ := L.to.ex
  have hr : Room 40 (LX P w K mg base fa cdv s H).A := room_lx
  have hu : (LX P w K mg base fa cdv s H).A.units + 64 < cLine := by have := hr.un; omega
  refine ⟨_, pss_cons (ps_set (i := 1) scLaw.nd rfl (Or.inl rfl) (pe_call Fp (hr.mono (by decide)) (by rfl) mp kp bp .nil pass0 (pa_cons (pv 0) pa_nil)))
    (pss_cons (ps_for PassesOwn.never rfl (pi_range1 (by rfl) L.B.range (pa_cons pe_int pa_nil)) (pg_name (i := 2) scLaw.nd rfl (Or.inl rfl)) hA)
      (pss_cons (ps_par (i := 11) (j := 12) rfl scLaw.nd rfl rfl (by decide) rfl rfl (pa_cons (pe_call Fg (hr.mono (by decide)) (by rfl) mgg kg bg .nil pass0 (pa_cons (pv 1) (pa_cons pe_int pa_nil))) (pa_cons (pe_call Fg (hr.mono (by decide)) (by rfl) mgg kg bg .nil pass0 (pa_cons (pv 1) (pa_cons pe_int pa_nil))) pa_nil)) (by rfl))
        (pss_one (ps_ret (pe_and (pe_cmpR (op_eqD hu) (pe_lst (pa_cons (pe_call Fi (hr.mono (by decide)) (by rfl) mi ki bi .nil pass0 (pa_cons (pv 11) pa_nil)) (pa_cons (pe_call Fi (hr.mono (by decide)) (by rfl) mi ki bi .nil pass0 (pa_cons (pv 12) pa_nil)) pa_nil))) (pe_lst (pa_cons pe_bl (pa_cons pe_bl pa_nil))) (nomark _))
          (pe_and (pe_cmpR (op_eqD hu) (pe_call Fko (hr.mono (by decide)) (by rfl) mko kko bko .nil passL (pa_cons pe_str pa_nil)) (pe_tup pa_nil) (nomark _))
            (pe_one (pe_cmpR op_eq (pe_call Fto (hr.mono (by decide)) (by rfl) mto kto bto .nil passL (pa_cons (pe_tup (pa_cons pe_str (pa_cons pe_str (pa_cons (pe_tup (pa_cons pe_str (pa_cons pe_str (pa_cons pe_str pa_nil)))) pa_nil)))) pa_nil)) pe_str (nomark _))))))))), ?_⟩
  intro Q a ns nx bk ct ha hn hT hQ
  refine q_run (call_go (ea_cons (ev_var rfl) ea_nil) fun H1 e1 => ⟨a, ns, rfl, ex_l e1 ha, hn, fun pen H2 hpen e2 P2 => ?_⟩)
  have hL : LW Pt (qL P w K mg base fa cdv s H) pen 0 H2 := ⟨P2, (TabS.nil ((e1.trans e2) _ _ hT))⟩
  refine q_forR1 (n := 8) (ea_cons ev_c ea_nil) (by decide) (HeadLaw Pt (qL P w K mg base fa cdv s H) pen) (fun H3 e3 => ⟨_, _, _, _, _, _, _, _, _, _, _, _, _, rfl, hL.ex e3⟩) (fun i σ' H' hi h => ?_) (fun σ' H' h => ?_)
  · obtain ⟨s0, s2, s3, s4, s5, s6, s7, s8, s9, s10, s11, s12, s13, rfl, hLi⟩ := h
    refine kA _ pen (1000 * i) H' s0 (some (.int (i : Int))) s3 s4 s5 s6 s7 s8 s9 s10 s11 s12 s13 hLi (by omega) fun v vl t d lp ys H3 L3 hv hvl hI ho hz hlp nlp hys => ?_
    refine kB _ pen _ H3 s0 _ s7 s8 s9 s10 s11 s12 s13 v vl t d lp ys L3 hv hvl hI ho hz hlp nlp hys fun H4 o7 o8 o9 L4 hv4 => ?_
    refine kC _ pen _ H4 s0 _ _ _ _ o7 o8 o9 s10 s11 s12 s13 v t L4 (by omega) hv4 ho hz fun H5 o7' o10 L5 => ?_
    exact ⟨_, _, _, _, _, _, _, _, _, _, _, _, _, rfl, L5.le (by omega)⟩
  · obtain ⟨s0, s2, s3, s4, s5, s6, s7, s8, s9, s10, s11, s12, s13, rfl, hLi⟩ := h
    have e8 : (8 : Int).toNat = 8 := rfl
    rw [e8] at hLi
    refine call_go (ea_cons (ev_var rfl) (ea_cons ev_c ea_nil)) fun H3 e3 => ⟨pen, 11, 8000, rfl, by decide, hLi.pen.ex e3, by decide, fun v1 t1 H4 e4 P4 d1 o1 z1 => ?_⟩
    refine call_go (ea_cons (ev_var rfl) (ea_cons ev_c ea_nil)) fun H5 e5 => ⟨pen, 12, 8100, rfl, by decide, P4.ex e5, by decide, fun v2 t2 H6 e6 P6 d2 o2 z2 => ?_⟩
    refine ⟨v1, v2, rfl, ?_⟩
    have d1' := Dx.exP (P4.ex e5) (pl_toD t1) (Dx.ex e5 _ _ d1) e6
    have two : Sm (.list [.bool true, .bool false]) 60 1000000 := ⟨rfl, by simp [PyData.depth, PyData.depthAll], by simp [PyData.bulk, PyData.bulkAll]⟩
    have nil0 : Sm (.tuple []) 60 1000000 := ⟨rfl, by simp [PyData.depth, PyData.depthAll], by simp [PyData.bulk, PyData.bulkAll]⟩
    refine s_ret (v := .bl true) (ev_is (ev_andV (a := true) (b := true) (ev_eqD (d := .list [.bool true, .bool false]) (evd_lst (eds_cons (evd_of (v := .bl true) (ev_is (ev_is_st (t := t1) (ev_var rfl) d1' t1.isT o1 (by omega)) (by rw [decide_eq_true (by omega)])) (.bl true)) (eds_cons (evd_of (v := .bl false) (ev_is (ev_is_st (t := t2) (ev_var rfl) d2 t2.isT o2 (by omega)) (by rw [decide_eq_false (by omega)])) (.bl false)) eds_nil)) (by simp))
        (evd_lst (eds_cons (evd_of ev_c (.bl true)) (eds_cons (evd_of ev_c (.bl false)) eds_nil)) (by simp)) two (by decide))
      (fun _ => ev_is (ev_andV (a := true) (b := true) (ev_eqD (d := .tuple []) evd_any (evd_tup eds_nil (by simp)) nil0 (by decide)) (fun _ => ev_is (ev_op (ev_fin (evd_tup (eds_cons (evd_c fun _ => .str _) (eds_cons (evd_c fun _ => .str _) (eds_cons (evd_tup (eds_cons (evd_c fun _ => .str _) (eds_cons (evd_c fun _ => .str _) (eds_cons (evd_c fun _ => .str _) eds_nil))) (by decide)) eds_nil))) (by decide))) ev_c (rv_eq rfl)) (by
          rw [show fin1.text = ("gives a or no b" : Str) from by decide +kernel, decide_eq_true rfl]))) rfl)) rfl) fun H7 e7 => hQ H7
end
end K2
set_option Elab.async false
set_option linter.all false
set_option maxRecDepth 100000
set_option maxHeartbeats 4000000
namespace K2
open PySem L2 Evl XcH XcS LamX LamD LamG TxS
/-! ### what the top has written -/
/-- a def of the top -/
structure DefAt (K : PySem.W.Frag) (x : Str) (st : Stmt) : Prop where
  ex : ∃ (f : Addr) (oc : Value) (od : Option Addr) (kV dc pm : Value) (an : Option Addr) (cd ct : Value) (sl : Array (Option Value)), PySem.W.nsIn K mainGlobals x = some (some (.ref f)) ∧
    K.lookup f = some ⟨oc, od, .func (PySem.W.fnOf x x (defArgs st) (defBody st) (defScope st) .none kV dc pm an cd ct), sl⟩ ∧ PySem.W.codeIn K cd x = true ∧ PySem.W.keepIn K (.ref f) = true
theorem DefAt.mk' {K : PySem.W.Frag} {x : Str} {st : Stmt} {f : Addr} {oc : Value} {od : Option Addr} {kV dc pm : Value} {an : Option Addr} {cd ct : Value} {sl : Array (Option Value)} (a : PySem.W.nsIn K mainGlobals x = some (some (.ref f)))
    (l : K.lookup f = some ⟨oc, od, .func (PySem.W.fnOf x x (defArgs st) (defBody st) (defScope st) .none kV dc pm an cd ct), sl⟩) (c : PySem.W.codeIn K cd x = true) (k : PySem.W.keepIn K (.ref f) = true) : DefAt K x st := ⟨f, oc, od, kV, dc, pm, an, cd, ct, sl, a, l, c, k⟩
structure NeedAt (K : PySem.W.Frag) : Prop where
  ex : ∃ (f T : Addr) (oc : Value) (od : Option Addr) (kV dc pm : Value) (an : Option Addr) (cd ct : Value) (sl : Array (Option Value)) (o : Obj) (its : List Value) (n : Nat), PySem.W.nsIn K mainGlobals "need_statement" = some (some (.ref f)) ∧
    K.lookup f = some ⟨oc, od, .func (PySem.W.fnOf "need_statement" "need_statement" (defArgs sNeed) (defBody sNeed) (defScope sNeed) (.ref T) kV dc pm an cd ct), sl⟩ ∧ PySem.W.codeIn K cd "need_statement" = true ∧ PySem.W.keepIn K (.ref f) = true ∧
    K.lookup T = some o ∧ o.data = .seq its.toArray n ∧ Vals [.str "statement"] its
theorem NeedAt.mk' {K : PySem.W.Frag} {f T : Addr} {oc ocT : Value} {od odT : Option Addr} {kV dc pm : Value} {an : Option Addr} {cd ct : Value} {sl slT : Array (Option Value)} {tk : Tok} {n : Nat} (a : PySem.W.nsIn K mainGlobals "need_statement" = some (some (.ref f)))
    (l : K.lookup f = some ⟨oc, od, .func (PySem.W.fnOf "need_statement" "need_statement" (defArgs sNeed) (defBody sNeed) (defScope sNeed) (.ref T) kV dc pm an cd ct), sl⟩) (c : PySem.W.codeIn K cd "need_statement" = true) (k : PySem.W.keepIn K (.ref f) = true)
    (t : K.lookup T = some ⟨ocT, odT, .seq #[.str "statement" tk] n, slT⟩) : NeedAt K := ⟨f, T, oc, od, kV, dc, pm, an, cd, ct, sl, _, [.str "statement" tk], n, a, l, c, k, t, rfl, .cons ⟨tk, rfl⟩ .nil⟩
structure TupAt (K : PySem.W.Frag) (x : Str) (xs : List V) : Prop where
  ex : ∃ a, PySem.W.nsIn K mainGlobals x = some (some (.ref a)) ∧ KT K a xs
theorem TupAt.mk' {K : PySem.W.Frag} {x : Str} {xs : List V} {a : Addr} {od : Option Addr} {its : Array Value} {n : Nat} {sl : Array (Option Value)} (ha : PySem.W.nsIn K mainGlobals x = some (some (.ref a))) (l : K.lookup a = some ⟨.type "tuple", od, .seq its n, sl⟩)
    (z : its.size ≤ sizeLine) (v : Vals xs its.toList) : TupAt K x xs := ⟨a, ha, _, its, n, l, rfl, rfl, z, v⟩
/-- an own class beside BadStatement -/
structure HrAt (K : PySem.W.Frag) (C : Addr) (x : Str) (b : Bool) : Prop where
  ex : ∃ c, PySem.W.nsIn K mainGlobals x = some (some (.ref c)) ∧ PySem.W.kitOne K (.ref C) (.ref c) = some b
theorem HrAt.mk' {K : PySem.W.Frag} {C c : Addr} {x : Str} {b : Bool} (a : PySem.W.nsIn K mainGlobals x = some (some (.ref c))) (k : PySem.W.kitOne K (.ref C) (.ref c) = some b) : HrAt K C x b := ⟨c, a, k⟩
structure AllAt (K : PySem.W.Frag) (C : Addr) : Prop where
  ex : ∃ c, PySem.W.nsIn K mainGlobals "AllError" = some (some (.ref c)) ∧ PySem.W.exmOne K (.ref C) (.ref c) = some true
theorem AllAt.mk' {K : PySem.W.Frag} {C c : Addr} (a : PySem.W.nsIn K mainGlobals "AllError" = some (some (.ref c))) (k : PySem.W.exmOne K (.ref C) (.ref c) = some true) : AllAt K C := ⟨c, a, k⟩
/-- BadStatement's maker -/
structure IniAt (P : Program) (K : PySem.W.Frag) (C : Addr) : Prop where
  ex : ∃ (D fI cc cda : Addr) (oc : Value) (od : Option Addr) (kV dc pm : Value) (an : Option Addr) (ct : Value) (sl : Array (Option Value)), PySem.W.nsIn K mainGlobals "BadStatement" = some (some (.ref C)) ∧
    PySem.W.findIn K (.ref C) "__init__" = some (some (.ref fI)) ∧ PySem.W.typeIn K (.ref fI) = some (.type "function") ∧
    K.lookup fI = some ⟨oc, od, .func (PySem.W.ksFn "__init__" "PartError.__init__" (defArgs sPart) (defBody sPart) (defScope sPart) .none kV dc pm an (.ref cda) ct cc), sl⟩ ∧
    (∃ cl cld csl, K.lookup cc = some ⟨cl, cld, .cell (some (.ref D)), csl⟩) ∧ (∃ ccl cdd vs ccs file tf, K.lookup cda = some ⟨ccl, cdd, .fields vs, ccs⟩ ∧ vs[2]? = some (.str file tf) ∧ ((P.main.file : Str) == file) = true) ∧
    PySem.W.codeIn K (.ref cda) "PartError.__init__" = true ∧ PySem.W.isClsIn K D = true ∧ PySem.W.nsIn K PySem.cStatics "thirdparty.any" = some none ∧
    SupC K D C ∧ PySem.W.findIn K (.ref C) "part" = some none ∧ ExcC K C ∧ XfC K C
structure LawAt (K : PySem.W.Frag) : Prop where
  ex : ∃ (f c Pt : Addr) (oc : Value) (od : Option Addr) (kV dc pm : Value) (an : Option Addr) (ct : Value) (sl : Array (Option Value)) (e : Value) (dd : Option Addr) (vs : Array Value) (sl2 : Array (Option Value)), PySem.W.nsIn K mainGlobals "law" = some (some (.ref f)) ∧
    K.lookup f = some ⟨oc, od, .func (PySem.W.fnOf "law" "law" (defArgs sLaw) (defBody sLaw) (defScope sLaw) .none kV dc pm an (.ref c) ct), sl⟩ ∧ PySem.W.codeIn K (.ref c) "law" = true ∧
    K.lookup c = some ⟨e, dd, .fields vs, sl2⟩ ∧ vs[11]? = some (.ref Pt) ∧ PySem.W.codeHdIn K c Pt = true ∧ K.lookup Pt = none
structure Facts (P : Program) (K : PySem.W.Frag) (C : Addr) : Prop where
  d16 : DefAt K "is_row" (top 16)
  d17 : DefAt K "is_name" (top 17)
  d35 : DefAt K "fixed" (top 35)
  d38 : DefAt K "statement_in" (top 38)
  d39 : DefAt K "is_statement" (top 39)
  d40 : NeedAt K
  d41 : DefAt K "parts_in" (top 41)
  d42 : DefAt K "is_kind" (top 42)
  d43 : DefAt K "kinds_in" (top 43)
  d44 : DefAt K "text_in" (top 44)
  d45 : DefAt K "parts_of" (top 45)
  d46 : DefAt K "size_of" (top 46)
  d47 : DefAt K "kinds_of" (top 47)
  d48 : DefAt K "statement_text" (top 48)
  d50 : DefAt K "_law_pen" (top 50)
  d51 : DefAt K "_law_draw" (top 51)
  d52 : DefAt K "_law_pick" (top 52)
  d53 : DefAt K "_law_heard" (top 53)
  d54 : DefAt K "_law_parts" (top 54)
  d55 : DefAt K "_law_text" (top 55)
  d56 : DefAt K "_law_statement" (top 56)
  d57 : DefAt K "_law_listed" (top 57)
  d58 : DefAt K "_law_long" (top 58)
  d59 : DefAt K "_law_bent" (top 59)
  lw : LawAt K
  ini : IniAt P K C
  b0 : PySem.W.nsIn K mainGlobals "isinstance" = some none
  b1 : PySem.W.nsIn K mainGlobals "list" = some none
  b2 : PySem.W.nsIn K mainGlobals "tuple" = some none
  b3 : PySem.W.nsIn K mainGlobals "str" = some none
  b4 : PySem.W.nsIn K mainGlobals "len" = some none
  b5 : PySem.W.nsIn K mainGlobals "all" = some none
  b6 : PySem.W.nsIn K mainGlobals "sorted" = some none
  b7 : PySem.W.nsIn K mainGlobals "set" = some none
  b8 : PySem.W.nsIn K mainGlobals "repr" = some none
  b9 : PySem.W.nsIn K mainGlobals "abs" = some none
  b10 : PySem.W.nsIn K mainGlobals "int" = some none
  b11 : PySem.W.nsIn K mainGlobals "range" = some none
  b12 : PySem.W.nsIn K mainGlobals "super" = some none
  c0 : ∃ t, PySem.W.nsIn K mainGlobals "LETTERS" = some (some (.str letters t))
  c1 : ∃ t, PySem.W.nsIn K mainGlobals "MOST_SIGNS" = some (some (.int 8 t))
  c2 : ∃ t, PySem.W.nsIn K mainGlobals "MOST_PARTS" = some (some (.int 24 t))
  c3 : TupAt K "WORDS" (ss words)
  c4 : TupAt K "JOINS" (ss joins)
  c5 : TupAt K "BARE" (ss bare)
  all : AllAt K C
  h0 : HrAt K C "BadStatement" true
  h1 : HrAt K C "BadSheet" false
  h2 : HrAt K C "BadWay" false
  h3 : HrAt K C "BadCode" false
  h4 : HrAt K C "BadValue" false
  h5 : HrAt K C "BadNumber" false
  h6 : HrAt K C "BadPaper" false
  h7 : HrAt K C "BadField" false
  h8 : HrAt K C "Misfit" false
  notop : (P.main.scope.names.lookup ("super" : Str)).isSome = false
section
variable {P : Program} {w : World} {K : PySem.W.Frag} {h : Heap} {mg : Str → Option Value} {base : Heap} {C : Addr}
theorem DefAt.fn {x : Str} {st : Stmt} (D : DefAt K x st) (X : K.In h) (G : h.Ns mainGlobals mg) : ∃ (f : Addr) (fd : FuncData), Fun K x x st f fd ∧ mg x = some (.ref f) ∧ PySem.W.keepIn K (.ref f) = true := by
  obtain ⟨f, oc, od, kV, dc, pm, an, cd, ct, sl, a, l, c, k⟩ := D.ex
  exact ⟨f, _, fun_mk (st := st) l c k, PySem.W.mg_of X G a, k⟩
theorem HrAt.at {x : Str} {b : Bool} (D : HrAt K C x b) (X : K.In h) (G : h.Ns mainGlobals mg) : ∃ c, mg x = some (.ref c) ∧ PySem.W.kitOne K (.ref C) (.ref c) = some b := by
  obtain ⟨c, a, k⟩ := D.ex
  exact ⟨c, PySem.W.mg_of X G a, k⟩
end
end K2
set_option Elab.async false
set_option linter.all false
set_option maxRecDepth 100000
set_option maxHeartbeats 4000000
namespace K2
open PySem L2 Evl XcH XcS LamX LamD LamG TxS
section
variable {P : Program} {w : World} {K : PySem.W.Frag} {h : Heap} {mg : Str → Option Value} {base : Heap} {C : Addr}
theorem kb1 {x pn : Str} {st : Stmt} {f : Addr} {fd : FuncData} (F : Fun K x x st f fd)
    (h1 : ∀ (kV doc pm : Value) (an : Option Addr) (cdv ct u : Value), bindArgs (PySem.W.fnOf x x (defArgs st) (defBody st) (defScope st) .none kV doc pm an cdv ct) ⟨[u], []⟩ = pure [(pn, u)])
    (h2 : ∀ (kV doc pm : Value) (an : Option Addr) (cdv ct u : Value), bindArgs (PySem.W.fnOf x x (defArgs st) (defBody st) (defScope st) .none kV doc pm an cdv ct) ⟨[], [(pn, u)]⟩ = pure [(pn, u)]) :
    KBinds K fd [pn] [pn] (fun us ws => us ++ ws) (fun vs zs => vs ++ zs) := by
  obtain ⟨oc, od, kV, doc, pm, an, cdv, ct, osl, rfl, lk, hcd⟩ := F.ex
  refine ⟨fun s us ws _ hl => ?_, fun r rz => r.append rz⟩
  match us, ws, hl with
  | [u], [], _ => exact .of_eq (h1 _ _ _ _ _ _ u)
  | [], [u], _ => exact .of_eq (h2 _ _ _ _ _ _ u)
theorem mk_LC (F : Facts P K C) (X : K.In h) (G : h.Ns mainGlobals mg) : LC P w K mg base C := by
  obtain ⟨f16, g16, F16, m16, k16⟩ := F.d16.fn X G
  obtain ⟨f17, g17, F17, m17, k17⟩ := F.d17.fn X G
  obtain ⟨f35, g35, F35, m35, k35⟩ := F.d35.fn X G
  obtain ⟨f38, g38, F38, m38, k38⟩ := F.d38.fn X G
  obtain ⟨f39, g39, F39, m39, k39⟩ := F.d39.fn X G
  obtain ⟨f41, g41, F41, m41, k41⟩ := F.d41.fn X G
  obtain ⟨f42, g42, F42, m42, k42⟩ := F.d42.fn X G
  obtain ⟨f43, g43, F43, m43, k43⟩ := F.d43.fn X G
  obtain ⟨f44, g44, F44, m44, k44⟩ := F.d44.fn X G
  obtain ⟨f45, g45, F45, m45, k45⟩ := F.d45.fn X G
  obtain ⟨f46, g46, F46, m46, k46⟩ := F.d46.fn X G
  obtain ⟨f47, g47, F47, m47, k47⟩ := F.d47.fn X G
  obtain ⟨f48, g48, F48, m48, k48⟩ := F.d48.fn X G
  obtain ⟨f50, g50, F50, m50, k50⟩ := F.d50.fn X G
  obtain ⟨f51, g51, F51, m51, k51⟩ := F.d51.fn X G
  obtain ⟨f52, g52, F52, m52, k52⟩ := F.d52.fn X G
  obtain ⟨f53, g53, F53, m53, k53⟩ := F.d53.fn X G
  obtain ⟨f54, g54, F54, m54, k54⟩ := F.d54.fn X G
  obtain ⟨f55, g55, F55, m55, k55⟩ := F.d55.fn X G
  obtain ⟨f56, g56, F56, m56, k56⟩ := F.d56.fn X G
  obtain ⟨f57, g57, F57, m57, k57⟩ := F.d57.fn X G
  obtain ⟨f58, g58, F58, m58, k58⟩ := F.d58.fn X G
  obtain ⟨f59, g59, F59, m59, k59⟩ := F.d59.fn X G
  have n0 := fun {x : Str} (e : PySem.W.nsIn K mainGlobals x = some none) => PySem.W.mg_none_of X G e
  have B : Bl mg := ⟨n0 F.b0, n0 F.b1, n0 F.b2, n0 F.b3, n0 F.b4, n0 F.b5, n0 F.b6, n0 F.b7, n0 F.b8, n0 F.b9, n0 F.b10, n0 F.b11⟩
  obtain ⟨t0, e0⟩ := F.c0
  obtain ⟨t1, e1⟩ := F.c1
  obtain ⟨t2, e2⟩ := F.c2
  obtain ⟨a3, e3, q3⟩ := F.c3.ex
  obtain ⟨a4, e4, q4⟩ := F.c4.ex
  obtain ⟨a5, e5, q5⟩ := F.c5.ex
  have Cc : Cn K mg := ⟨⟨t0, PySem.W.mg_of X G e0⟩, ⟨t1, PySem.W.mg_of X G e1⟩, ⟨t2, PySem.W.mg_of X G e2⟩, ⟨a3, PySem.W.mg_of X G e3, q3⟩, ⟨a4, PySem.W.mg_of X G e4, q4⟩, ⟨a5, PySem.W.mg_of X G e5, q5⟩⟩
  obtain ⟨D, fI, cc, cda, ocI, odI, kVI, dcI, pmI, anI, ctI, slI, aC, iC, tI, lI, cellI, codeI, cdI, clsD, noth, SC, noP, ec, xf⟩ := F.ini.ex
  have SK : SupK P K mg "PartError.__init__" cc cda D := ⟨cellI, codeI, cdI, Option.isSome_iff_exists.mp clsD, n0 F.b12, F.notop, noth⟩
  have Ec : ErC K mg "BadStatement" D C fI := ⟨SC, noP, iC, tI, PySem.W.mg_of X G aC⟩
  obtain ⟨f40, T40, oc40, od40, kV40, dc40, pm40, an40, cd40, ct40, sl40, o40, its40, n40, a40, l40, c40, k40, lT40, oT40, vT40⟩ := F.d40.ex
  have FD : FunD K "need_statement" "need_statement" (defArgs sNeed) (defBody sNeed) (defScope sNeed) [.str "statement"] [] f40 _ := ⟨⟨oc40, od40, .ref T40, kV40, dc40, pm40, an40, cd40, ct40, sl40, rfl, l40, c40, .inr ⟨by simp, T40, o40, its40, n40, rfl, lT40, oT40, vT40⟩, .inl rfl⟩, k40⟩
  have b16 := F16.binds (ps := ["value"]) fun _ _ _ _ _ _ us hl => match us, hl with | [_], _ => rfl
  have b17 := F17.binds (ps := ["value"]) fun _ _ _ _ _ _ us hl => match us, hl with | [_], _ => rfl
  have b35 := F35.binds (ps := ["value"]) fun _ _ _ _ _ _ us hl => match us, hl with | [_], _ => rfl
  have b38 := F38.binds (ps := ["value"]) fun _ _ _ _ _ _ us hl => match us, hl with | [_], _ => rfl
  have b39 := F39.binds (ps := ["value"]) fun _ _ _ _ _ _ us hl => match us, hl with | [_], _ => rfl
  have b41 := F41.binds (ps := ["statement"]) fun _ _ _ _ _ _ us hl => match us, hl with | [_], _ => rfl
  have b42 := F42.binds (ps := ["statement"]) fun _ _ _ _ _ _ us hl => match us, hl with | [_], _ => rfl
  have b43 := F43.binds (ps := ["statements"]) fun _ _ _ _ _ _ us hl => match us, hl with | [_], _ => rfl
  have b44 := F44.binds (ps := ["statement"]) fun _ _ _ _ _ _ us hl => match us, hl with | [_], _ => rfl
  have b45 := F45.binds (ps := ["statement"]) fun _ _ _ _ _ _ us hl => match us, hl with | [_], _ => rfl
  have b46 := F46.binds (ps := ["statement"]) fun _ _ _ _ _ _ us hl => match us, hl with | [_], _ => rfl
  have b47 := F47.binds (ps := ["statement"]) fun _ _ _ _ _ _ us hl => match us, hl with | [_], _ => rfl
  have b48 := F48.binds (ps := ["statement"]) fun _ _ _ _ _ _ us hl => match us, hl with | [_], _ => rfl
  have b50 := F50.binds (ps := ["script"]) fun _ _ _ _ _ _ us hl => match us, hl with | [_], _ => rfl
  have b51 := F51.binds (ps := ["pen", "many"]) fun _ _ _ _ _ _ us hl => match us, hl with | [_, _], _ => rfl
  have b52 := F52.binds (ps := ["pen", "some"]) fun _ _ _ _ _ _ us hl => match us, hl with | [_, _], _ => rfl
  have b53 := F53.binds (ps := ["ask"]) fun _ _ _ _ _ _ us hl => match us, hl with | [_], _ => rfl
  have b54 := F54.binds (ps := ["statement"]) fun _ _ _ _ _ _ us hl => match us, hl with | [_], _ => rfl
  have b55 := F55.binds (ps := ["statement"]) fun _ _ _ _ _ _ us hl => match us, hl with | [_], _ => rfl
  have b56 := F56.binds (ps := ["pen", "kinds", "deep"]) fun _ _ _ _ _ _ us hl => match us, hl with | [_, _, _], _ => rfl
  have b57 := F57.binds (ps := ["pen", "statement"]) fun _ _ _ _ _ _ us hl => match us, hl with | [_, _], _ => rfl
  have b58 := F58.binds (ps := ["pen", "many"]) fun _ _ _ _ _ _ us hl => match us, hl with | [_, _], _ => rfl
  have b59 := F59.binds (ps := ["pen", "statement"]) fun _ _ _ _ _ _ us hl => match us, hl with | [_, _], _ => rfl
  have row := ok_row (P := P) (w := w) (base := base) F16 B
  have cName : Cal P w K mg base CX0 1 "is_name" ["value"] spName := ⟨f17, _, ok_name F17 B Cc, m17, k17, b17⟩
  have cFix : Cal P w K mg base CX0 2 "fixed" ["value"] (spFix K) := ⟨f35, _, ok_fix F35 B row m16 k16 b16, m35, k35, b35⟩
  have cIn : Cal P w K mg base CX0 3 "statement_in" ["value"] (spIn K) := ⟨f38, _, ok_in F38 B Cc cName cFix, m38, k38, b38⟩
  have part := ok_part (P := P) (w := w) (mg := mg) (base := base) lI SK
  have bI : Binds K _ ["self", "part"] [] := Binds.all (fd := PySem.W.ksFn "__init__" "PartError.__init__" (defArgs sPart) (defBody sPart) (defScope sPart) .none kVI dcI pmI anI (.ref cda) ctI cc) fun us hl => match us, hl with | [_, _], _ => rfl
  have need := ok_need FD cIn Ec part bI
  have cNeed := cal_need FD (PySem.W.mg_of X G a40) need
  have cPs : Cal P w K mg base CX0 1 "parts_in" ["statement"] (spPs K) := ⟨f41, _, ok_ps F41 B, m41, k41, b41⟩
  have cKd : Cal P w K mg base CX0 1 "is_kind" ["statement"] (spKd K) := ⟨f42, _, ok_kd F42 B Cc, m42, k42, b42⟩
  have cKi : Cal P w K mg base CX0 2 "kinds_in" ["statements"] (spKi K) := ⟨f43, _, ok_ki F43 B cPs cKd, m43, k43, b43⟩
  have cTx : Cal P w K mg base CX0 2 "text_in" ["statement"] (spTx K) := ⟨f44, _, ok_tx F44 B cPs, m44, k44, b44⟩
  have cDr : Cal P w K mg base CX0 1 "_law_draw" ["pen", "many"] spDraw := ⟨f51, _, ok_draw F51 B, m51, k51, b51⟩
  have cPk : Cal P w K mg base CX0 2 "_law_pick" ["pen", "some"] (spPick K) := ⟨f52, _, ok_pick F52 B cDr, m52, k52, b52⟩
  have cLp : Cal P w K mg base CX0 26 "_law_parts" ["statement"] (spLp K 25) := ⟨f54, _, ok_lp F54 B m54 k54 b54 25 (by decide), m54, k54, b54⟩
  obtain ⟨CA, eA, hA⟩ := F.all.ex
  exact {
    B := B
    Hc := ⟨⟨CA, PySem.W.mg_of X G eA, hA⟩, F.h0.at X G, F.h1.at X G, F.h2.at X G, F.h3.at X G, F.h4.at X G, F.h5.at X G, F.h6.at X G, F.h7.at X G, F.h8.at X G, ec, xf, noP⟩
    pen := ⟨f50, _, ok_pen F50 B, m50, k50, b50⟩
    draw := cDr
    pick := cPk
    long := ⟨f58, _, ok_lg F58 B cDr cPk, m58, k58, b58⟩
    stm := ⟨f56, _, ok_ls F56 m56 k56 b56 cDr cPk 3, m56, k56, b56⟩
    lst := ⟨f57, _, ok_ll F57 B m57 k57 b57 cDr 25, m57, k57, b57⟩
    prt := cLp
    txt := ⟨f55, _, ok_lt (by decide) F55 B cLp, m55, k55, b55⟩
    bent := ⟨f59, _, ok_lb F59 B m59 k59 b59 cDr cPk 25, m59, k59, b59⟩
    is := ⟨f39, _, ok_is F39 cIn, m39, k39, b39, kb1 F39 (fun _ _ _ _ _ _ _ => rfl) (fun _ _ _ _ _ _ _ => rfl)⟩
    po := ⟨f45, _, ok_po F45 cNeed cPs, m45, k45, b45, kb1 F45 (fun _ _ _ _ _ _ _ => rfl) (fun _ _ _ _ _ _ _ => rfl)⟩
    so := ⟨f46, _, ok_so F46 B cNeed cPs, m46, k46, b46, kb1 F46 (fun _ _ _ _ _ _ _ => rfl) (fun _ _ _ _ _ _ _ => rfl)⟩
    ko := ⟨f47, _, ok_ko F47 cNeed cKi, m47, k47, b47, kb1 F47 (fun _ _ _ _ _ _ _ => rfl) (fun _ _ _ _ _ _ _ => rfl)⟩
    to := ⟨f48, _, ok_to F48 cNeed cTx, m48, k48, b48, kb1 F48 (fun _ _ _ _ _ _ _ => rfl) (fun _ _ _ _ _ _ _ => rfl)⟩
    hr := ⟨f53, _, F53, m53, k53, b53⟩ }
end
theorem law_at {l : PySem.W.OpenLaw} {w : World} {K : PySem.W.Frag} {h : Heap} {mg : Str → Option Value} {fa C : Addr} (F : Facts l.prog K C) (X : K.In h) (G : h.Ns mainGlobals mg) (hfa : mg "law" = some (.ref fa)) (own : OwnTab K fa h) : LawAtG l w K 63 mg fa h := by
  obtain ⟨f, c, Pt, oc, od, kV, dc, pm, an, ct, sl, e, dd, vs, sl2, a, lk, hcd, lc, hv, hh, hP⟩ := F.lw.ex
  have q := hfa.symm.trans (PySem.W.mg_of X G a)
  cases q
  refine ⟨[(c, Pt)], fun p hp => ?_, fun p hp => ?_, fun p hp => ?_, fun s base H a ns hn KX Gb TB e0 hH hS => ?_⟩
  · rw [List.mem_singleton.mp hp]
    exact own c Pt _ _ e dd vs sl2 lk rfl rfl lc hv
  · rw [List.mem_singleton.mp hp]
    exact hP
  · rw [List.mem_singleton.mp hp]
    exact PySem.W.codeHd_of_K X hh
  · have L : LC l.prog w K mg base C := mk_LC F X G
    refine run_ofS (N := nLaw) (ps := ["script"]) (us := [.ref a]) (vs := [.ref a]) (k := 40) lk hcd scLaw room_c e0 (.of_eq rfl) (.cons rfl .nil) rfl fun hr' => ?_
    obtain ⟨t, ht, hq⟩ := law_walk (s := s) (H := H) (fa := fa) (cdv := .ref c) L (TB (c, Pt) (List.mem_singleton.mpr rfl)) rfl
    exact ⟨t, ht.nox, hq _ a ns _ _ _ hS hn (hH (c, Pt) (List.mem_singleton.mpr rfl)) fun H' => rfl⟩
theorem IniAt.mk' {P : Program} {K : PySem.W.Frag} {C D fI cc cda : Addr} {oc : Value} {od : Option Addr} {kV dc pm : Value} {an : Option Addr} {ct : Value} {sl : Array (Option Value)} {cl : Value} {cld : Option Addr} {csl : Array (Option Value)} {ccl : Value} {cdd : Option Addr} {vs : Array Value} {ccs : Array (Option Value)} {file : Str} {tf : Tok}
    {nm q : Str} {N : Addr} {bs bm : List Value} {sn : List Str} {sub : List Value} {ab : Bool} {col : Option Bool} {dd : Option Addr} {m0 m1 m2 m3 m5 : Option Value}
    (aC : PySem.W.nsIn K mainGlobals "BadStatement" = some (some (.ref C))) (iC : PySem.W.findIn K (.ref C) "__init__" = some (some (.ref fI))) (tI : PySem.W.typeIn K (.ref fI) = some (.type "function"))
    (lI : K.lookup fI = some ⟨oc, od, .func (PySem.W.ksFn "__init__" "PartError.__init__" (defArgs sPart) (defBody sPart) (defScope sPart) .none kV dc pm an (.ref cda) ct cc), sl⟩)
    (cellI : K.lookup cc = some ⟨cl, cld, .cell (some (.ref D)), csl⟩) (codeI : K.lookup cda = some ⟨ccl, cdd, .fields vs, ccs⟩) (fl : vs[2]? = some (.str file tf)) (fe : ((P.main.file : Str) == file) = true) (cd : PySem.W.codeIn K (.ref cda) "PartError.__init__" = true) (clsD : PySem.W.isClsIn K D = true)
    (noth : PySem.W.nsIn K PySem.cStatics "thirdparty.any" = some none) (ox : K.lookup C = some (excClassObj nm q C N bs bm true sn sub ab col dd m0 m1 m2 m3 m5 "ValueError.__new__")) (oxr : PySem.HandSPX.refsVE bm = true)
    (sa : PySem.W.findIn K (.ref C) "__setattr__" = some (some (.builtin "object.__setattr__"))) (exC : PySem.W.subIn K (.ref C) (.type "BaseException") = some true) (tyC : PySem.W.typeIn K (.ref C) = some (.type "type")) (kC : PySem.W.keepIn K (.ref C) = true)
    (mro : PySem.W.mroIn K C (.ref D) = some true) (inis : PySem.W.ks_superIn K C D "__init__" = some (some (.builtin "ValueError.__init__"))) (ve : PySem.W.subIn K (.ref C) (.type "ValueError") = some true) (noP : PySem.W.findIn K (.ref C) "part" = some none)
    (hg : PySem.W.findIn K (.ref C) "__getattribute__" = some (some (.builtin "BaseException.__getattribute__"))) (hk : PySem.W.findIn K (.ref C) "__getattr__" = some none) (hd : PySem.W.hasDictIn K C = true) (ha : PySem.W.findIn K (.ref C) "__class__" = some (some (.builtin "object.__class__")))
    (hn : PySem.W.specialIn K (.builtin "object.__class__") "__get__" = some (some (.builtin "getset_descriptor.__get__"))) (ht : PySem.W.takesIn K (.builtin "object.__class__") = some true) (hm : PySem.W.mroIn K C (.type "object") = some true) : IniAt P K C :=
  ⟨D, fI, cc, cda, oc, od, kV, dc, pm, an, ct, sl, aC, iC, tI, lI, ⟨cl, cld, csl, cellI⟩, ⟨ccl, cdd, vs, ccs, file, tf, codeI, fl, fe⟩, cd, clsD, noth,
    ⟨⟨⟨nm, q, N, bs, bm, sn, sub, ab, col, dd, m0, m1, m2, m3, m5, ox, oxr⟩, sa, exC, tyC, kC⟩, mro, inis, ve⟩, noP, ⟨hg, hk, exC, hd, ha, hn, ht, hm⟩, ⟨hg, hk, exC, hd⟩⟩
theorem LawAt.mk' {K : PySem.W.Frag} {f c Pt : Addr} {oc : Value} {od : Option Addr} {kV dc pm : Value} {an : Option Addr} {ct : Value} {sl : Array (Option Value)} {e : Value} {dd : Option Addr} {vs : Array Value} {sl2 : Array (Option Value)}
    (a : PySem.W.nsIn K mainGlobals "law" = some (some (.ref f))) (l : K.lookup f = some ⟨oc, od, .func (PySem.W.fnOf "law" "law" (defArgs sLaw) (defBody sLaw) (defScope sLaw) .none kV dc pm an (.ref c) ct), sl⟩) (cd : PySem.W.codeIn K (.ref c) "law" = true)
    (lc : K.lookup c = some ⟨e, dd, .fields vs, sl2⟩) (hv : vs[11]? = some (.ref Pt)) (hh : PySem.W.codeHdIn K c Pt = true) (hP : K.lookup Pt = none) : LawAt K :=
  ⟨f, c, Pt, oc, od, kV, dc, pm, an, ct, sl, e, dd, vs, sl2, a, l, cd, lc, hv, hh, hP⟩
/-- a constant of the top, looked at -/
def intB (K : PySem.W.Frag) (x : Str) (i : Int) : Bool := match PySem.W.nsIn K mainGlobals x with
  | some (some (.int j _)) => decide (j = i)
  | _ => false
theorem intB_ok {K : PySem.W.Frag} {x : Str} {i : Int} (c : intB K x i = true) : ∃ t, PySem.W.nsIn K mainGlobals x = some (some (.int i t)) := by
  unfold intB at c
  split at c
  · rename_i j t e
    have ej : j = i := of_decide_eq_true c
    exact ⟨t, by rw [e, ej]⟩
  · cases c
def strB (K : PySem.W.Frag) (x z : Str) : Bool := match PySem.W.nsIn K mainGlobals x with
  | some (some (.str y _)) => decide (y = z)
  | _ => false
theorem strB_ok {K : PySem.W.Frag} {x z : Str} (c : strB K x z = true) : ∃ t, PySem.W.nsIn K mainGlobals x = some (some (.str z t)) := by
  unfold strB at c
  split at c
  · rename_i y t e
    have ey : y = z := of_decide_eq_true c
    exact ⟨t, by rw [e, ey]⟩
  · cases c
end K2
set_option Elab.async false
set_option linter.all false
set_option maxRecDepth 100000
set_option pp.maxSteps 60
open PySem PySem.W PyProof.Rows in
set_option maxRecDepth 100000 in
set_option maxHeartbeats 0 in
theorem PySem.Challenge.cw_atallprices_k02_statements_and_their_tex_holds : PySem.Challenge.rw_atallprices_k02_statements_and_their_tex.Holds := by
  w_on; o_law; k_head; (case hw => w_witness2)
  k_fill
  refine LamG.walk_ofG (l := PySem.Challenge.rw_atallprices_k02_statements_and_their_tex) (n := 63) rfl (by decide) rfl ?hrec (fun w h Y => PySem.W.km_in_of Y) ?F
  case hrec => first | rfl | decide +kernel
  case F =>
    intro w mg fa h Y KX G hmg own
    refine' K2.law_at (K2.Facts.mk ?f_d16 ?f_d17 ?f_d35 ?f_d38 ?f_d39 ?f_d40 ?f_d41 ?f_d42 ?f_d43 ?f_d44 ?f_d45 ?f_d46 ?f_d47 ?f_d48 ?f_d50 ?f_d51 ?f_d52 ?f_d53 ?f_d54 ?f_d55 ?f_d56 ?f_d57 ?f_d58 ?f_d59 ?f_lw ?f_ini ?f_b0 ?f_b1 ?f_b2 ?f_b3 ?f_b4 ?f_b5 ?f_b6 ?f_b7 ?f_b8 ?f_b9 ?f_b10 ?f_b11 ?f_b12 ?f_c0 ?f_c1 ?f_c2 ?f_c3 ?f_c4 ?f_c5 ?f_all ?f_h0 ?f_h1 ?f_h2 ?f_h3 ?f_h4 ?f_h5 ?f_h6 ?f_h7 ?f_h8 ?f_notop) KX G hmg own
    case f_ini =>
      refine' K2.IniAt.mk' ?aC ?iC ?tI ?lI ?cellI ?codeI ?fl ?fe ?cd ?clsD ?noth ?ox ?oxr ?sa ?exC ?tyC ?kC ?mro ?inis ?ve ?noP ?hg ?hk ?hd ?ha ?hn ?ht ?hm
      (case aC => k_is)
      (case iC => k_is)
      (case tI => k_is)
      (case lI => k_is)
      (case cellI => k_is)
      (case codeI => k_is)
      (case fl => rfl)
      (case fe => first | rfl | decide +kernel)
      (case cd => k_is)
      (case clsD => k_is)
      (case noth => k_is)
      (case ox => k_is)
      (case oxr => first | rfl | decide +kernel)
      (case sa => k_is)
      (case exC => k_is)
      (case tyC => k_is)
      (case kC => k_is)
      (case mro => k_is)
      (case inis => first | kernel_rfl | rfl)
      (case ve => k_is)
      (case noP => k_is)
      (case hg => k_is)
      (case hk => k_is)
      (case hd => k_is)
      (case ha => k_is)
      (case hn => k_is)
      (case ht => k_is)
      (case hm => k_is)
    case f_lw =>
      refine' K2.LawAt.mk' ?a ?l ?cd ?lc ?hv ?hh ?hP
      (case a => k_is)
      (case l => k_is)
      (case cd => k_is)
      (case lc => k_is)
      (case hv => rfl)
      (case hh => kernel_rfl)
      (case hP => first | kernel_rfl | rfl)
    case f_d16 =>
      refine' K2.DefAt.mk' ?a ?l ?c ?k
      (case a => k_is); (case l => k_is); (case c => k_is); (case k => k_is)
    case f_d17 =>
      refine' K2.DefAt.mk' ?a ?l ?c ?k
      (case a => k_is); (case l => k_is); (case c => k_is); (case k => k_is)
    case f_d35 =>
      refine' K2.DefAt.mk' ?a ?l ?c ?k
      (case a => k_is); (case l => k_is); (case c => k_is); (case k => k_is)
    case f_d38 =>
      refine' K2.DefAt.mk' ?a ?l ?c ?k
      (case a => k_is); (case l => k_is); (case c => k_is); (case k => k_is)
    case f_d39 =>
      refine' K2.DefAt.mk' ?a ?l ?c ?k
      (case a => k_is); (case l => k_is); (case c => k_is); (case k => k_is)
    case f_d41 =>
      refine' K2.DefAt.mk' ?a ?l ?c ?k
      (case a => k_is); (case l => k_is); (case c => k_is); (case k => k_is)
    case f_d42 =>
      refine' K2.DefAt.mk' ?a ?l ?c ?k
      (case a => k_is); (case l => k_is); (case c => k_is); (case k => k_is)
    case f_d43 =>
      refine' K2.DefAt.mk' ?a ?l ?c ?k
      (case a => k_is); (case l => k_is); (case c => k_is); (case k => k_is)
    case f_d44 =>
      refine' K2.DefAt.mk' ?a ?l ?c ?k
      (case a => k_is); (case l => k_is); (case c => k_is); (case k => k_is)
    case f_d45 =>
      refine' K2.DefAt.mk' ?a ?l ?c ?k
      (case a => k_is); (case l => k_is); (case c => k_is); (case k => k_is)
    case f_d46 =>
      refine' K2.DefAt.mk' ?a ?l ?c ?k
      (case a => k_is); (case l => k_is); (case c => k_is); (case k => k_is)
    case f_d47 =>
      refine' K2.DefAt.mk' ?a ?l ?c ?k
      (case a => k_is); (case l => k_is); (case c => k_is); (case k => k_is)
    case f_d48 =>
      refine' K2.DefAt.mk' ?a ?l ?c ?k
      (case a => k_is); (case l => k_is); (case c => k_is); (case k => k_is)
    case f_d50 =>
      refine' K2.DefAt.mk' ?a ?l ?c ?k
      (case a => k_is); (case l => k_is); (case c => k_is); (case k => k_is)
    case f_d51 =>
      refine' K2.DefAt.mk' ?a ?l ?c ?k
      (case a => k_is); (case l => k_is); (case c => k_is); (case k => k_is)
    case f_d52 =>
      refine' K2.DefAt.mk' ?a ?l ?c ?k
      (case a => k_is); (case l => k_is); (case c => k_is); (case k => k_is)
    case f_d53 =>
      refine' K2.DefAt.mk' ?a ?l ?c ?k
      (case a => k_is); (case l => k_is); (case c => k_is); (case k => k_is)
    case f_d54 =>
      refine' K2.DefAt.mk' ?a ?l ?c ?k
      (case a => k_is); (case l => k_is); (case c => k_is); (case k => k_is)
    case f_d55 =>
      refine' K2.DefAt.mk' ?a ?l ?c ?k
      (case a => k_is); (case l => k_is); (case c => k_is); (case k => k_is)
    case f_d56 =>
      refine' K2.DefAt.mk' ?a ?l ?c ?k
      (case a => k_is); (case l => k_is); (case c => k_is); (case k => k_is)
    case f_d57 =>
      refine' K2.DefAt.mk' ?a ?l ?c ?k
      (case a => k_is); (case l => k_is); (case c => k_is); (case k => k_is)
    case f_d58 =>
      refine' K2.DefAt.mk' ?a ?l ?c ?k
      (case a => k_is); (case l => k_is); (case c => k_is); (case k => k_is)
    case f_d59 =>
      refine' K2.DefAt.mk' ?a ?l ?c ?k
      (case a => k_is); (case l => k_is); (case c => k_is); (case k => k_is)
    case f_d40 =>
      refine' K2.NeedAt.mk' ?a ?l ?c ?k ?t
      (case a => k_is); (case l => k_is); (case c => k_is); (case k => k_is); (case t => k_is)
    (case f_b0 => k_is)
    (case f_b1 => k_is)
    (case f_b2 => k_is)
    (case f_b3 => k_is)
    (case f_b4 => k_is)
    (case f_b5 => k_is)
    (case f_b6 => k_is)
    (case f_b7 => k_is)
    (case f_b8 => k_is)
    (case f_b9 => k_is)
    (case f_b10 => k_is)
    (case f_b11 => k_is)
    (case f_b12 => k_is)
    (case f_c0 => exact K2.strB_ok (by kernel_rfl))
    (case f_c1 => exact K2.intB_ok (by kernel_rfl))
    (case f_c2 => exact K2.intB_ok (by kernel_rfl))
    case f_c3 =>
      refine' K2.TupAt.mk' ?a ?l ?z ?v
      (case a => k_is); (case l => k_is); (case z => decide); (case v => exact .cons ⟨_, rfl⟩ (.cons ⟨_, rfl⟩ (.cons ⟨_, rfl⟩ (.cons ⟨_, rfl⟩ (.cons ⟨_, rfl⟩ (.cons ⟨_, rfl⟩ (.cons ⟨_, rfl⟩ (.cons ⟨_, rfl⟩ (.cons ⟨_, rfl⟩ (.cons ⟨_, rfl⟩ (.cons ⟨_, rfl⟩ (.cons ⟨_, rfl⟩ (.cons ⟨_, rfl⟩ (.cons ⟨_, rfl⟩ (.cons ⟨_, rfl⟩ (.cons ⟨_, rfl⟩ (.cons ⟨_, rfl⟩ (.cons ⟨_, rfl⟩ (.cons ⟨_, rfl⟩ (.cons ⟨_, rfl⟩ (.cons ⟨_, rfl⟩ (.cons ⟨_, rfl⟩ (.cons ⟨_, rfl⟩ (.cons ⟨_, rfl⟩ (.nil)))))))))))))))))))))))))
    case f_c4 =>
      refine' K2.TupAt.mk' ?a ?l ?z ?v
      (case a => k_is); (case l => k_is); (case z => decide); (case v => exact .cons ⟨_, rfl⟩ (.cons ⟨_, rfl⟩ (.cons ⟨_, rfl⟩ (.cons ⟨_, rfl⟩ (.nil)))))
    case f_c5 =>
      refine' K2.TupAt.mk' ?a ?l ?z ?v
      (case a => k_is); (case l => k_is); (case z => decide); (case v => exact .cons ⟨_, rfl⟩ (.cons ⟨_, rfl⟩ (.cons ⟨_, rfl⟩ (.nil))))
    case f_all =>
      refine' K2.AllAt.mk' ?a ?k
      (case a => k_is); (case k => kernel_rfl)
    case f_h0 =>
      refine' K2.HrAt.mk' ?a ?k
      (case a => k_is); (case k => kernel_rfl)
    case f_h1 =>
      refine' K2.HrAt.mk' ?a ?k
      (case a => k_is); (case k => kernel_rfl)
    case f_h2 =>
      refine' K2.HrAt.mk' ?a ?k
      (case a => k_is); (case k => kernel_rfl)
    case f_h3 =>
      refine' K2.HrAt.mk' ?a ?k
      (case a => k_is); (case k => kernel_rfl)
    case f_h4 =>
      refine' K2.HrAt.mk' ?a ?k
      (case a => k_is); (case k => kernel_rfl)
    case f_h5 =>
      refine' K2.HrAt.mk' ?a ?k
      (case a => k_is); (case k => kernel_rfl)
    case f_h6 =>
      refine' K2.HrAt.mk' ?a ?k
      (case a => k_is); (case k => kernel_rfl)
    case f_h7 =>
      refine' K2.HrAt.mk' ?a ?k
      (case a => k_is); (case k => kernel_rfl)
    case f_h8 =>
      refine' K2.HrAt.mk' ?a ?k
      (case a => k_is); (case k => kernel_rfl)
    (case f_notop => first | rfl | decide +kernel)
#print axioms PySem.Challenge.cw_atallprices_k02_statements_and_their_tex_holds
